import PyProof.Rows.All
import Wide.All
import OpenK.AllK
import Wide.FinOn
import HandS.ForMost
import HandS.ForExc
import HandS.EndBits
import HandS.Wide
import HandS.WideBits
import HandS.Style
import HandS.TupAny
import HandS.StrMore
import HandS.IsInst
import HandS.ExcIs
import HandS.ExcField
import HandS.ExcSuper
import HandS.Text
import KE.IntTextLaws
import Wide.Loose
import HandS.Dict
import HandS.WordsDict
import PyProof.AutoSeq1
import HandS.More
import HandS.TupLe
import HandS.DictComp
import PyProof.ListStr
import HandS.TryOnly
import HandS.SetFor
import HandS.TupMul
import KE.KTupSum
import PyProof.ListRange
import PyProof.DictUpdate
import PyProof.StrLawsTight
import PyProof.StrLawsChain
import KE.IntTextText
import PySem.Challenge.RW_allgoon_k09_code
set_option Elab.async false
set_option linter.all false
set_option autoImplicit false
set_option maxRecDepth 100000
/-! A small language of values: what a def of the program does, as a plain function. -/
namespace Mi
/-- a text, as its codes -/
abbrev Tx := List Nat
inductive MV where
  | non | bl (b : Bool) | int (i : Int) | str (s : Tx) | tup (l : List MV) | ref (i : Nat) | rol (l : List MV)
  deriving Inhabited
inductive MO where
  | lst (l : List MV) | dic (l : List (MV × MV)) | ins (c : Nat) (fs : List (Tx × MV))
  deriving Inhabited
abbrev Hm := List MO
abbrev Env := List (Option MV)
/-- an error: its class, its own fields where it has a dict -/
structure MX where
  cls : Nat
  fs : Option (List (Tx × MV))
inductive R (α : Type) where
  | ok (a : α) (M : Hm) | exc (x : MX) (M : Hm) | bad
def R.bind {α β : Type} (r : R α) (f : α → Hm → R β) : R β := match r with
  | .ok a M => f a M
  | .exc x M => .exc x M
  | .bad => .bad
inductive O where
  | nx | brk | cnt | ret (d : MV)
inductive RS where
  | ok (o : O) (env : Env) (M : Hm) | exc (x : MX) (env : Env) (M : Hm) | bad
abbrev Fe := Env → Hm → R MV
abbrev Ft := Env → Hm → R Bool
abbrev Fs := Env → Hm → RS
abbrev Fa := Env → Hm → R (List MV)
/-- as bind, where nothing may be raised -/
def R.bindN {α β : Type} (r : R α) (f : α → Hm → R β) : R β := match r with
  | .ok a M => f a M
  | _ => .bad
theorem R.bindN_bind {α β γ : Type} (r : R α) (f : α → Hm → R β) (h : β → Hm → R γ) : (r.bindN f).bind h = r.bindN fun a M => (f a M).bind h := by
  cases r <;> rfl
/-- from an expression's end to a statement's -/
def R.st {α : Type} (r : R α) (env : Env) (f : α → Hm → RS) : RS := match r with
  | .ok a M => f a M
  | .exc x M => .exc x env M
  | .bad => .bad
abbrev SL : Nat := 16777216

/-! ### expressions -/
def eVar (i : Nat) : Fe := fun env M => match env[i]? with
  | some (some d) => .ok d M
  | _ => .bad
def eC (d : MV) : Fe := fun _ M => .ok d M
/-- two places, one place, on values -/
def eOp (f : MV → MV → Hm → R MV) (a b : Fe) : Fe := fun env M => (a env M).bind fun x M1 => (b env M1).bind fun y M2 => f x y M2
def eUn (f : MV → Hm → R MV) (a : Fe) : Fe := fun env M => (a env M).bind fun x M1 => f x M1
def aNil : Fa := fun _ M => .ok [] M
def aCons (a : Fe) (r : Fa) : Fa := fun env M => (a env M).bind fun x M1 => (r env M1).bind fun xs M2 => .ok (x :: xs) M2
def eTup (t : Fa) : Fe := fun env M => (t env M).bind fun xs M1 => if xs.length ≤ SL then .ok (.tup xs) M1 else .bad
def eLst (t : Fa) : Fe := fun env M => (t env M).bind fun xs M1 => if xs.length ≤ SL then .ok (.ref M1.length) (M1 ++ [.lst xs]) else .bad
/-- a built-in, a def, on values -/
def eFn (f : List MV → Hm → R MV) (t : Fa) : Fe := fun env M => (t env M).bind fun xs M1 => f xs M1
/-- a method of a built-in type -/
def eMt (f : MV → List MV → Hm → R MV) (o : Fe) (t : Fa) : Fe := fun env M => (o env M).bind fun x M1 => (t env M1).bind fun xs M2 => f x xs M2
def eIf (c : Ft) (a b : Fe) : Fe := fun env M => (c env M).bind fun k M1 => if k then a env M1 else b env M1
def eAnd (a b : Fe) : Fe := fun env M => (a env M).bind fun x M1 => match x with
  | .bl true => b env M1
  | .bl false => .ok (.bl false) M1
  | _ => .bad
def eOr (a b : Fe) : Fe := fun env M => (a env M).bind fun x M1 => match x with
  | .bl true => .ok (.bl true) M1
  | .bl false => b env M1
  | _ => .bad
/-- a test as a value -/
def eT (c : Ft) : Fe := fun env M => (c env M).bind fun k M1 => .ok (.bl k) M1
def truth (M : Hm) : MV → Option Bool
  | .non => some false
  | .bl b => some b
  | .int i => some (i != 0)
  | .str s => if s.length ≤ SL then some (!s.isEmpty) else none
  | .tup l => some (!l.isEmpty)
  | .ref i => match M[i]? with
    | some (.lst l) => some (!l.isEmpty)
    | some (.dic l) => some (!l.isEmpty)
    | _ => none
  | .rol l => some (!l.isEmpty)
def cV (a : Fe) : Ft := fun env M => (a env M).bind fun x M1 => match truth M1 x with
  | some b => .ok b M1
  | none => .bad
/-- a value that is a bool -/
def cB (a : Fe) : Ft := fun env M => (a env M).bind fun x M1 => match x with
  | .bl b => .ok b M1
  | _ => .bad
def cAnd (a b : Ft) : Ft := fun env M => (a env M).bind fun k M1 => if k then b env M1 else .ok false M1
def cOr (a b : Ft) : Ft := fun env M => (a env M).bind fun k M1 => if k then .ok true M1 else b env M1
def cNot (a : Ft) : Ft := fun env M => (a env M).bind fun k M1 => .ok (!k) M1

/-! ### what is walked -/
/-- what comes at turn k: none: it can't be told; some none: the end -/
abbrev Ni := Hm → Nat → Option (Option MV)
abbrev Fi := Env → Hm → R (Ni × Nat)
def nT (l : List MV) : Ni := fun _ k => some l[k]?
def nL (i : Nat) : Ni := fun M k => match M[i]? with
  | some (.lst l) => some l[k]?
  | _ => none
abbrev Ftg := MV → Env → Hm → R Env
def gN (i : Nat) : Ftg := fun d env M => .ok (env.set i (some d)) M
abbrev Ftgs := List MV → Env → Hm → R Env
def gsNil : Ftgs := fun ds env M => match ds with
  | [] => .ok env M
  | _ => .bad
def gsCons (g : Ftg) (r : Ftgs) : Ftgs := fun ds env M => match ds with
  | d :: ds => (g d env M).bind fun env1 M1 => r ds env1 M1
  | [] => .bad
def gT (n : Nat) (r : Ftgs) : Ftg := fun d env M => match d with
  | .tup l => if l.length = n then r l env M else .bad
  | _ => .bad
def wipeE (env : Env) : List Nat → Env
  | [] => env
  | v :: vs => (wipeE env vs).set v none
/-- the turns of a comprehension: acc, what is made so far -/
def lcGo (ni : Ni) (tg : Ftg) (c : Ft) (e : Fe) (env0 : Env) : Nat → Nat → List MV → Hm → R (List MV)
  | 0, _, _, _ => .bad
  | n + 1, k, acc, M => match ni M k with
    | none => .bad
    | some none => .ok acc M
    | some (some x) => (tg x env0 M).bindN fun env1 M1 => (c env1 M1).bindN fun b M2 =>
      if b then (e env1 M2).bindN fun y M3 => if acc.length < SL then lcGo ni tg c e env0 n (k + 1) (acc ++ [y]) M3 else .bad
      else lcGo ni tg c e env0 n (k + 1) acc M2
def cYes : Ft := fun _ M => .ok true M
def eLc (it : Fi) (tg : Ftg) (c : Ft) (e : Fe) (vs : List Nat) : Fe := fun env M => (it env M).bind fun p M1 =>
  (lcGo p.1 tg c e (wipeE env vs) p.2 0 [] M1).bind fun l M2 => .ok (.ref M2.length) (M2 ++ [.lst l])
def iL (a : Fe) : Fi := fun env M => (a env M).bind fun x M1 => match x with
  | .ref i => match M1[i]? with
    | some (.lst l) => .ok (nL i, l.length + 1) M1
    | _ => .bad
  | .rol l => .ok (nT l, l.length + 1) M1
  | _ => .bad
def iT (a : Fe) : Fi := fun env M => (a env M).bind fun x M1 => match x with
  | .tup l => .ok (nT l, l.length + 1) M1
  | _ => .bad
/-- lo, lo + c, .. n of them -/
def nR (lo c : Int) (n : Nat) : Ni := fun _ k => some (if k < n then some (.int (lo + k * c)) else none)
def iS (a : Fe) : Fi := fun env M => (a env M).bind fun x M1 => match x with
  | .str s => .ok (nT (s.map fun c => .str [c]), s.length + 1) M1
  | _ => .bad

/-! ### statements -/
def sNx : Fs := fun env M => .ok .nx env M
def sSeq (a b : Fs) : Fs := fun env M => match a env M with
  | .ok .nx env1 M1 => b env1 M1
  | r => r
def sSet (i : Nat) (e : Fe) : Fs := fun env M => (e env M).st env fun d M1 => .ok .nx (env.set i (some d)) M1
def sAsg (g : Ftg) (e : Fe) : Fs := fun env M => (e env M).st env fun d M1 => (g d env M1).st env fun env1 M2 => .ok .nx env1 M2
def sAug (f : MV → MV → Hm → R MV) (i : Nat) (e : Fe) : Fs := fun env M => match env[i]? with
  | some (some x) => (e env M).st env fun y M1 => (f x y M1).st env fun z M2 => .ok .nx (env.set i (some z)) M2
  | _ => .bad
def sEx (e : Fe) : Fs := fun env M => (e env M).st env fun _ M1 => .ok .nx env M1
def sRet (e : Fe) : Fs := fun env M => (e env M).st env fun d M1 => .ok (.ret d) env M1
def sRetN : Fs := fun env M => .ok (.ret .non) env M
def sIf (c : Ft) (a b : Fs) : Fs := fun env M => (c env M).st env fun k M1 => if k then a env M1 else b env M1
def sBrk : Fs := fun env M => .ok .brk env M
def sCnt : Fs := fun env M => .ok .cnt env M
def whlGo (c : Ft) (b : Fs) : Nat → Fs
  | 0 => fun _ _ => .bad
  | n + 1 => fun env M => (c env M).st env fun k M1 => if k then
      match b env M1 with
      | .ok .nx env2 M2 => whlGo c b n env2 M2
      | .ok .cnt env2 M2 => whlGo c b n env2 M2
      | .ok .brk env2 M2 => .ok .nx env2 M2
      | r => r
    else .ok .nx env M1
/-- most turns of a while -/
abbrev WL : Nat := 1073741824
def sWhl (c : Ft) (b : Fs) : Fs := whlGo c b WL
def forGo (ni : Ni) (tg : Ftg) (b : Fs) : Nat → Nat → Fs
  | 0, _ => fun _ _ => .bad
  | n + 1, k => fun env M => match ni M k with
    | none => .bad
    | some none => .ok .nx env M
    | some (some x) => (tg x env M).st env fun env1 M1 => match b env1 M1 with
      | .ok .nx env2 M2 => forGo ni tg b n (k + 1) env2 M2
      | .ok .cnt env2 M2 => forGo ni tg b n (k + 1) env2 M2
      | .ok .brk env2 M2 => .ok .nx env2 M2
      | r => r
def sFor (it : Fi) (tg : Ftg) (b : Fs) : Fs := fun env M => (it env M).st env fun p M1 => forGo p.1 tg b p.2 0 env M1
/-- raise C(..) -/
def sRaise (f : List MV → Hm → R MX) (t : Fa) : Fs := fun env M => (t env M).st env fun xs M1 => (f xs M1).st env fun x M2 => .exc x env M2

/-! ### defs -/
abbrev Ga := Nat → List MV → Hm → R MV
structure Df where
  np : Nat
  ns : Nat
  bd : Ga → Fs
def RS.res : RS → R MV
  | .ok .nx _ M => .ok .non M
  | .ok (.ret d) _ M => .ok d M
  | .ok _ _ _ => .bad
  | .exc x _ M => .exc x M
  | .bad => .bad
/-! what nobody can come to any more is left out -/
mutual
def beqV : MV → MV → Bool
  | .non, .non => true
  | .bl a, .bl b => a == b
  | .int i, .int j => decide (i = j)
  | .str s, .str t => decide (s = t)
  | .tup l, .tup m => beqVs l m
  | .ref i, .ref j => decide (i = j)
  | .rol l, .rol m => beqVs l m
  | _, _ => false
def beqVs : List MV → List MV → Bool
  | [], [] => true
  | a :: l, b :: m => beqV a b && beqVs l m
  | _, _ => false
end
def beqP : List (MV × MV) → List (MV × MV) → Bool
  | [], [] => true
  | (a, x) :: l, (b, y) :: m => beqV a b && beqV x y && beqP l m
  | _, _ => false
def beqF : List (Tx × MV) → List (Tx × MV) → Bool
  | [], [] => true
  | (a, x) :: l, (b, y) :: m => decide (a = b) && beqV x y && beqF l m
  | _, _ => false
def beqO : MO → MO → Bool
  | .lst l, .lst m => beqVs l m
  | .dic l, .dic m => beqP l m
  | .ins c l, .ins d m => decide (c = d) && beqF l m
  | _, _ => false
mutual
/-- all places in a value are below k -/
def rfs (k : Nat) : MV → Bool
  | .tup l => rfsL k l
  | .ref i => decide (i < k)
  | .rol l => rfsL k l
  | _ => true
def rfsL (k : Nat) : List MV → Bool
  | [] => true
  | d :: l => rfs k d && rfsL k l
end
def rfsP (k : Nat) : List (MV × MV) → Bool
  | [] => true
  | (_, x) :: l => rfs k x && rfsP k l
def rfsF (k : Nat) : List (Tx × MV) → Bool
  | [] => true
  | (_, x) :: l => rfs k x && rfsF k l
def rfsO (k : Nat) : MO → Bool
  | .lst l => rfsL k l
  | .dic l => rfsP k l
  | .ins _ l => rfsF k l
/-- what stood stands, or is changed to what has places below k -/
def okH (k : Nat) : Hm → Hm → Bool
  | [], _ => true
  | a :: M, b :: M' => (beqO a b || rfsO k b) && okH k M M'
  | _ :: _, [] => false
def gcV (M M' : Hm) (d : MV) : MV × Hm :=
  if okH M.length M M' then
    if rfs M.length d then (d, M'.take M.length)
    else match d with
      | .ref j => match M'[j]? with
        | some o => if decide (M.length ≤ j) && rfsO M.length o then (.ref M.length, M'.take M.length ++ [o]) else (d, M')
        | none => (d, M')
      | _ => (d, M')
  else (d, M')
def gcX (M M' : Hm) (x : MX) : Hm :=
  if okH M.length M M' then
    match x.fs with
    | none => M'.take M.length
    | some fs => if rfsF M.length fs then M'.take M.length else M'
  else M'
def gcR (M : Hm) : R MV → R MV
  | .ok d M' => .ok (gcV M M' d).1 (gcV M M' d).2
  | .exc x M' => .exc x (gcX M M' x)
  | .bad => .bad
/-- an expression, and nothing left of it but its value -/
def eGc (e : Fe) : Fe := fun env M => gcR M (e env M)
def callD (d : Df) (G : Ga) (ds : List MV) (M : Hm) : R MV :=
  if ds.length = d.np then gcR M (d.bd G (ds.map some ++ List.replicate (d.ns - d.np) none) M).res else .bad
/-- the defs of a text, n calls deep -/
def run (tab : Nat → Option Df) : Nat → Ga
  | 0 => fun _ _ _ => .bad
  | n + 1 => fun f ds M => match tab f with
    | some d => callD d (run tab n) ds M
    | none => .bad
def eCall (G : Ga) (f : Nat) (t : Fa) : Fe := eFn (G f) t
end Mi
set_option maxRecDepth 100000
/-! The relation between the small language's values and those of the layer. -/
namespace Mi
open PySem PySem.Spec PyProof.Rows L2

def T (l : Tx) : Str := ⟨l.toArray⟩
theorem T_inj {a b : Tx} (h : T a = T b) : a = b := by
  have e : a.toArray = b.toArray := congrArg Str.cps h
  simpa using congrArg Array.toList e
theorem T_len (a : Tx) : (T a).length = a.length := by
  show a.toArray.size = a.length
  simp
theorem T_list (a : Tx) : (T a).cps.toList = a := by
  show a.toArray.toList = a
  simp
theorem T_app (a b : Tx) : T a ++ T b = T (a ++ b) := by
  show Str.mk (a.toArray ++ b.toArray) = Str.mk (a ++ b).toArray
  simp
theorem T_surj (s : Str) : ∃ l, s = T l := ⟨s.cps.toList, by cases s; simp [T]⟩

/-- where the small language's classes stand, and what is written -/
structure Cfg where
  K : PySem.W.Frag
  /-- a class's address -/
  cA : Nat → Addr

/-- a list that is read only -/
def FzL (K : PySem.W.Frag) (H : Hp) (a : Addr) (xs : List V) : Prop :=
  (∃ o, H a = some (.frz o (.lst xs))) ∨
    ∃ (o : Obj) (its : Array Value) (n : Nat), K.lookup a = some o ∧ o.cls = .type "list" ∧ o.dict = none ∧ o.data = .seq its n ∧ its.size ≤ sizeLine ∧ Vals xs its.toList
theorem FzL.sq {K : PySem.W.Frag} {H : Hp} {a : Addr} {xs : List V} (h : FzL K H a xs) : SqL K H a xs := by
  rcases h with ⟨o, h⟩ | h
  · exact .inl (.inr ⟨o, h⟩)
  · exact .inr h

section
variable (K : PySem.W.Frag)
mutual
def RV (H : Hp) (ρ : List Addr) : MV → V → Prop
  | .non, v => v = .non
  | .bl b, v => v = .bl b
  | .int i, v => v = .int i
  | .str s, v => v = .str (T s)
  | .tup l, v => ∃ a xs, v = .ref a ∧ SqT K H a xs ∧ RVs H ρ l xs
  | .ref i, v => ∃ a, ρ[i]? = some a ∧ v = .ref a
  | .rol l, v => ∃ a xs, v = .ref a ∧ FzL K H a xs ∧ RVs H ρ l xs
def RVs (H : Hp) (ρ : List Addr) : List MV → List V → Prop
  | [], xs => xs = []
  | d :: ds, xs => ∃ v vs, xs = v :: vs ∧ RV H ρ d v ∧ RVs H ρ ds vs
end
end

/-- what is never lost -/
structure Mo (K : PySem.W.Frag) (ρ ρ' : List Addr) (H H' : Hp) : Prop where
  pre : ρ <+: ρ'
  tup : ∀ a xs, SqT K H a xs → SqT K H' a xs
  fz : ∀ a xs, FzL K H a xs → FzL K H' a xs
structure Ext (K : PySem.W.Frag) (ρ ρ' : List Addr) (H H' : Hp) : Prop extends Mo K ρ ρ' H H' where
  /-- what is tracked beside the places stands -/
  fr : ∀ a o, H a = some o → a ∉ ρ → H' a = some o
  /-- new places were free -/
  nw : ∀ a, a ∈ ρ' → a ∈ ρ ∨ H a = none
section
variable {K : PySem.W.Frag} {ρ ρ' ρ2 : List Addr} {H H' H2 : Hp}
theorem Ext.refl : Ext K ρ ρ H H := ⟨⟨List.prefix_refl _, fun _ _ h => h, fun _ _ h => h⟩, fun _ _ h _ => h, fun _ h => .inl h⟩
theorem Ext.trans (a : Ext K ρ ρ' H H') (b : Ext K ρ' ρ2 H' H2) : Ext K ρ ρ2 H H2 := by
  refine ⟨⟨a.pre.trans b.pre, fun x y h => b.tup x y (a.tup x y h), fun x y h => b.fz x y (a.fz x y h)⟩, fun x o h hn => ?_, fun x hx => ?_⟩
  · refine b.fr x o (a.fr x o h hn) fun hm => ?_
    rcases a.nw x hm with q | q
    · exact hn q
    · rw [h] at q; cases q
  · rcases b.nw x hx with q | q
    · exact a.nw x q
    · by_cases hm : x ∈ ρ
      · exact .inl hm
      · cases e : H x with
        | none => exact .inr rfl
        | some o => rw [a.fr x o e hm] at q; cases q
theorem Mo.trans (a : Mo K ρ ρ' H H') (b : Mo K ρ' ρ2 H' H2) : Mo K ρ ρ2 H H2 := ⟨a.pre.trans b.pre, fun x y h => b.tup x y (a.tup x y h), fun x y h => b.fz x y (a.fz x y h)⟩
theorem Mo.ix (e : Mo K ρ ρ' H H') {i : Nat} {a : Addr} (h : ρ[i]? = some a) : ρ'[i]? = some a := by
  obtain ⟨t, rfl⟩ := e.pre
  obtain ⟨hl, he⟩ := List.getElem?_eq_some_iff.mp h
  rw [List.getElem?_append_left hl]
  exact h
mutual
theorem RV.mo (e : Mo K ρ ρ' H H') : ∀ {d : MV} {v : V}, RV K H ρ d v → RV K H' ρ' d v
  | .non, _, h => by unfold RV at h ⊢; exact h
  | .bl _, _, h => by unfold RV at h ⊢; exact h
  | .int _, _, h => by unfold RV at h ⊢; exact h
  | .str _, _, h => by unfold RV at h ⊢; exact h
  | .tup l, v, h => by
    unfold RV at h ⊢
    obtain ⟨a, xs, h1, h2, h3⟩ := h
    exact ⟨a, xs, h1, e.tup a xs h2, RVs.mo e h3⟩
  | .ref i, v, h => by
    unfold RV at h ⊢
    obtain ⟨a, h1, h2⟩ := h
    exact ⟨a, e.ix h1, h2⟩
  | .rol l, v, h => by
    unfold RV at h ⊢
    obtain ⟨a, xs, h1, h2, h3⟩ := h
    exact ⟨a, xs, h1, e.fz a xs h2, RVs.mo e h3⟩
theorem RVs.mo (e : Mo K ρ ρ' H H') : ∀ {ds : List MV} {vs : List V}, RVs K H ρ ds vs → RVs K H' ρ' ds vs
  | [], _, h => by unfold RVs at h ⊢; exact h
  | d :: ds, xs, h => by
    unfold RVs at h ⊢
    obtain ⟨v, vs, h1, h2, h3⟩ := h
    exact ⟨v, vs, h1, RV.mo e h2, RVs.mo e h3⟩
end
theorem RV.mono (e : Ext K ρ ρ' H H') {d : MV} {v : V} (h : RV K H ρ d v) : RV K H' ρ' d v := h.mo e.toMo
theorem RVs.mono (e : Ext K ρ ρ' H H') {ds : List MV} {vs : List V} (h : RVs K H ρ ds vs) : RVs K H' ρ' ds vs := h.mo e.toMo
theorem Ext.ix (e : Ext K ρ ρ' H H') {i : Nat} {a : Addr} (h : ρ[i]? = some a) : ρ'[i]? = some a := e.toMo.ix h
theorem RVs.len : ∀ {ds : List MV} {vs : List V}, RVs K H ρ ds vs → vs.length = ds.length
  | [], _, h => by unfold RVs at h; rw [h]; rfl
  | d :: ds, xs, h => by
    unfold RVs at h
    obtain ⟨v, vs, rfl, _, h3⟩ := h
    rw [List.length_cons, List.length_cons, RVs.len h3]
theorem RVs.get : ∀ {ds : List MV} {vs : List V}, RVs K H ρ ds vs → ∀ {k : Nat} {d : MV}, ds[k]? = some d → ∃ v, vs[k]? = some v ∧ RV K H ρ d v
  | [], _, h, k, d, e => by simp at e
  | d :: ds, xs, h, k, d', e => by
    unfold RVs at h
    obtain ⟨v, vs, rfl, h2, h3⟩ := h
    cases k with
    | zero =>
      simp at e
      subst e
      exact ⟨v, rfl, h2⟩
    | succ k =>
      simp at e
      obtain ⟨v', e', r'⟩ := RVs.get h3 e
      exact ⟨v', by simpa using e', r'⟩
theorem RVs.app : ∀ {ds es : List MV} {vs ws : List V}, RVs K H ρ ds vs → RVs K H ρ es ws → RVs K H ρ (ds ++ es) (vs ++ ws)
  | [], es, _, ws, h, h' => by unfold RVs at h; subst h; exact h'
  | d :: ds, es, xs, ws, h, h' => by
    unfold RVs at h
    obtain ⟨v, vs, rfl, h2, h3⟩ := h
    show RVs K H ρ (d :: (ds ++ es)) (v :: (vs ++ ws))
    unfold RVs
    exact ⟨v, _, rfl, h2, RVs.app h3 h'⟩
theorem RVs.nil : RVs K H ρ [] [] := by unfold RVs; rfl
theorem RVs.cons {d : MV} {ds : List MV} {v : V} {vs : List V} (h : RV K H ρ d v) (t : RVs K H ρ ds vs) : RVs K H ρ (d :: ds) (v :: vs) := by
  unfold RVs
  exact ⟨v, vs, rfl, h, t⟩
theorem RVs.take : ∀ {ds : List MV} {vs : List V} (n : Nat), RVs K H ρ ds vs → RVs K H ρ (ds.take n) (vs.take n)
  | [], _, n, h => by unfold RVs at h; subst h; simp; exact RVs.nil
  | d :: ds, xs, n, h => by
    unfold RVs at h
    obtain ⟨v, vs, rfl, h2, h3⟩ := h
    cases n with
    | zero => exact RVs.nil
    | succ n => exact RVs.cons h2 (RVs.take n h3)
theorem RVs.drop : ∀ {ds : List MV} {vs : List V} (n : Nat), RVs K H ρ ds vs → RVs K H ρ (ds.drop n) (vs.drop n)
  | [], _, n, h => by unfold RVs at h; subst h; simp; exact RVs.nil
  | d :: ds, xs, n, h => by
    unfold RVs at h
    obtain ⟨v, vs, rfl, h2, h3⟩ := h
    cases n with
    | zero => exact RVs.cons h2 h3
    | succ n => exact RVs.drop n h3
theorem RVs.rev : ∀ {ds : List MV} {vs : List V}, RVs K H ρ ds vs → RVs K H ρ ds.reverse vs.reverse
  | [], _, h => by unfold RVs at h; subst h; exact RVs.nil
  | d :: ds, xs, h => by
    unfold RVs at h
    obtain ⟨v, vs, rfl, h2, h3⟩ := h
    rw [List.reverse_cons, List.reverse_cons]
    exact RVs.app (RVs.rev h3) (RVs.cons h2 RVs.nil)
theorem RVs.set : ∀ {ds : List MV} {vs : List V} (k : Nat) {d : MV} {v : V}, RVs K H ρ ds vs → RV K H ρ d v → RVs K H ρ (ds.set k d) (vs.set k v)
  | [], _, k, d, v, h, r => by unfold RVs at h; subst h; exact RVs.nil
  | d' :: ds, xs, k, d, v, h, r => by
    unfold RVs at h
    obtain ⟨v', vs, rfl, h2, h3⟩ := h
    cases k with
    | zero => exact RVs.cons r h3
    | succ k => exact RVs.cons h2 (RVs.set k h3 r)
theorem RVs.snoc {ds : List MV} {vs : List V} {d : MV} {v : V} (h : RVs K H ρ ds vs) (r : RV K H ρ d v) : RVs K H ρ (ds ++ [d]) (vs ++ [v]) := h.app (RVs.cons r RVs.nil)
end

/-! ### the heap -/
/-- pairs of a dict: a key is an int or a text -/
def keyM : MV → Option Key
  | .int i => some (.inl i)
  | .str s => some (.inr (T s))
  | _ => none
def RK (K : PySem.W.Frag) (H : Hp) (ρ : List Addr) : List (MV × MV) → List (Key × V) → Prop
  | [], ks => ks = []
  | (k, d) :: r, ks => ∃ k' v t, ks = (k', v) :: t ∧ keyM k = some k' ∧ RV K H ρ d v ∧ RK K H ρ r t
def RF (K : PySem.W.Frag) (H : Hp) (ρ : List Addr) : List (Tx × MV) → List (Str × V) → Prop
  | [], ks => ks = []
  | (f, d) :: r, ks => ∃ v t, ks = (T f, v) :: t ∧ RV K H ρ d v ∧ RF K H ρ r t
def RO (C : Cfg) (H : Hp) (ρ : List Addr) : MO → Addr → Prop
  | .lst l, a => ∃ xs, H a = some (.lst xs) ∧ RVs C.K H ρ l xs
  | .dic l, a => ∃ ks, H a = some (.dK ks) ∧ RK C.K H ρ l ks
  | .ins c fs, a => ∃ dx gs, H a = some (.ins (C.cA c) dx gs) ∧ RF C.K H ρ fs gs
structure RH (C : Cfg) (ρ : List Addr) (H : Hp) (M : Hm) : Prop where
  len : ρ.length = M.length
  nd : ρ.Nodup
  ob : ∀ (i : Nat) (o : MO), M[i]? = some o → ∃ a, ρ[i]? = some a ∧ RO C H ρ o a
section
variable {C : Cfg} {ρ ρ' : List Addr} {H H' : Hp} {M : Hm}
theorem RK.mo (e : Mo C.K ρ ρ' H H') : ∀ {l : List (MV × MV)} {ks : List (Key × V)}, RK C.K H ρ l ks → RK C.K H' ρ' l ks
  | [], _, h => h
  | (k, d) :: r, ks, h => by
    obtain ⟨k', v, t, h1, h2, h3, h4⟩ := h
    exact ⟨k', v, t, h1, h2, h3.mo e, RK.mo e h4⟩
theorem RF.mo (e : Mo C.K ρ ρ' H H') : ∀ {l : List (Tx × MV)} {ks : List (Str × V)}, RF C.K H ρ l ks → RF C.K H' ρ' l ks
  | [], _, h => h
  | (k, d) :: r, ks, h => by
    obtain ⟨v, t, h1, h3, h4⟩ := h
    exact ⟨v, t, h1, h3.mo e, RF.mo e h4⟩
theorem RO.mo (e : Mo C.K ρ ρ' H H') {o : MO} {a : Addr} (hk : H' a = H a) (h : RO C H ρ o a) : RO C H' ρ' o a := by
  cases o with
  | lst l =>
    obtain ⟨xs, h1, h2⟩ := h
    exact ⟨xs, hk.trans h1, h2.mo e⟩
  | dic l =>
    obtain ⟨xs, h1, h2⟩ := h
    exact ⟨xs, hk.trans h1, h2.mo e⟩
  | ins c fs =>
    obtain ⟨dx, gs, h1, h2⟩ := h
    exact ⟨dx, gs, hk.trans h1, h2.mo e⟩
theorem RO.mono (e : Ext C.K ρ ρ' H H') {o : MO} {a : Addr} (hk : H' a = H a) (h : RO C H ρ o a) : RO C H' ρ' o a := h.mo e.toMo hk
/-- what stands at an object's place may be written, and is no tuple -/
theorem RO.mut {o : MO} {a : Addr} (h : RO C H ρ o a) : ∃ u, H a = some u ∧ Mut (some u) := by
  cases o with
  | lst l => obtain ⟨xs, h1, _⟩ := h; exact ⟨_, h1, trivial⟩
  | dic l => obtain ⟨xs, h1, _⟩ := h; exact ⟨_, h1, trivial⟩
  | ins c fs => obtain ⟨dx, gs, h1, _⟩ := h; exact ⟨_, h1, trivial⟩
/-- a place that may be written is changed: tuples and read only lists stand -/
theorem Ext.wr {a : Addr} {u o : HO} (h : H a = some u) (m : Mut (some u)) (hm : a ∈ ρ) : Ext C.K ρ ρ H (upd H a o) := by
  have rd : ∀ b w, ¬ Mut (some w) → Rd H b w → Rd (upd H a o) b w := fun b w nm r => by
    rcases r with r | ⟨ob, r⟩
    · have : b ≠ a := fun e => by rw [e, h] at r; cases r; exact nm m
      exact .inl (by rw [upd_ne this]; exact r)
    · have : b ≠ a := fun e => by rw [e, h] at r; cases r; exact m
      exact .inr ⟨ob, by rw [upd_ne this]; exact r⟩
  refine ⟨⟨List.prefix_refl _, fun b xs q => ?_, fun b xs q => ?_⟩, fun b w q hn => by rw [upd_ne (fun e => hn (by rw [e]; exact hm))]; exact q, fun b hb => .inl hb⟩
  · rcases q with q | q
    · exact .inl (rd b _ (fun z => z) q)
    · exact .inr q
  · rcases q with ⟨ob, q⟩ | q
    · have : b ≠ a := fun e => by rw [e, h] at q; cases q; exact m
      exact .inl ⟨ob, by rw [upd_ne this]; exact q⟩
    · exact .inr q
/-- something new is tracked -/
theorem Ext.newG {a : Addr} {o : HO} (h : H a = none) (hp : ρ <+: ρ') (hw : ∀ b, b ∈ ρ' → b ∈ ρ ∨ H b = none) : Ext C.K ρ ρ' H (upd H a o) := by
  have ne : ∀ b w, H b = some w → b ≠ a := fun b w q e => by rw [e, h] at q; cases q
  refine ⟨⟨hp, fun b xs q => ?_, fun b xs q => ?_⟩, fun b w q _ => by rw [upd_ne (ne _ _ q)]; exact q, hw⟩
  · rcases q with (q | ⟨ob, q⟩) | q
    · exact .inl (.inl (by rw [upd_ne (ne _ _ q)]; exact q))
    · exact .inl (.inr ⟨ob, by rw [upd_ne (ne _ _ q)]; exact q⟩)
    · exact .inr q
  · rcases q with ⟨ob, q⟩ | q
    · exact .inl ⟨ob, by rw [upd_ne (ne _ _ q)]; exact q⟩
    · exact .inr q
theorem Ext.new {a : Addr} {o : HO} (h : H a = none) : Ext C.K ρ ρ H (upd H a o) := Ext.newG h (List.prefix_refl _) fun _ q => .inl q
theorem Ext.new1 {a : Addr} {o : HO} (h : H a = none) : Ext C.K ρ (ρ ++ [a]) H (upd H a o) := Ext.newG h (List.prefix_append _ _) fun b q => by
  rcases List.mem_append.mp q with q | q
  · exact .inl q
  · have : b = a := by simpa using q
    exact .inr (by rw [this]; exact h)
theorem RH.at (h : RH C ρ H M) {i : Nat} {o : MO} {a : Addr} (hm : M[i]? = some o) (ha : ρ[i]? = some a) : RO C H ρ o a := by
  obtain ⟨b, hb, r⟩ := h.ob i o hm
  rw [ha] at hb
  cases hb
  exact r
theorem RH.there (h : RH C ρ H M) {i : Nat} {a : Addr} (ha : ρ[i]? = some a) : ∃ o, M[i]? = some o ∧ RO C H ρ o a := by
  have hl : i < M.length := by
    rw [← h.len]
    exact (List.getElem?_eq_some_iff.mp ha).1
  exact ⟨M[i], List.getElem?_eq_getElem hl, h.at (List.getElem?_eq_getElem hl) ha⟩
theorem RH.fresh (h : RH C ρ H M) {p : Addr} (hp : H p = none) : p ∉ ρ := fun hm => by
  obtain ⟨i, hi⟩ := List.mem_iff_getElem?.mp hm
  obtain ⟨o, _, r⟩ := h.there hi
  obtain ⟨u, hu, _⟩ := r.mut
  rw [hp] at hu
  cases hu
/-- something else is laid anew -/
theorem RH.beside (h : RH C ρ H M) {p : Addr} {o : HO} (hp : H p = none) : RH C ρ (upd H p o) M := by
  refine ⟨h.len, h.nd, fun i ob hi => ?_⟩
  obtain ⟨a, ha, r⟩ := h.ob i ob hi
  obtain ⟨u, hu, _⟩ := r.mut
  have ne : a ≠ p := fun e => by rw [e, hp] at hu; cases hu
  exact ⟨a, ha, r.mono (Ext.new (C := C) hp) (upd_ne ne)⟩
/-- an object is laid anew -/
theorem RH.push (h : RH C ρ H M) {p : Addr} {o : HO} {ob : MO} (hp : H p = none) (r : RO C (upd H p o) (ρ ++ [p]) ob p) : RH C (ρ ++ [p]) (upd H p o) (M ++ [ob]) := by
  have e : Ext C.K ρ (ρ ++ [p]) H (upd H p o) := Ext.new1 (C := C) hp
  refine ⟨by rw [List.length_append, List.length_append, h.len]; rfl, ?_, fun i ob' hi => ?_⟩
  · rw [List.nodup_append]
    refine ⟨h.nd, by simp, fun a ha b hb q => ?_⟩
    have : b = p := by simpa using hb
    subst this
    subst q
    exact h.fresh hp ha
  · by_cases hl : i < M.length
    · rw [List.getElem?_append_left hl] at hi
      obtain ⟨a, ha, r'⟩ := h.ob i ob' hi
      obtain ⟨u, hu, _⟩ := r'.mut
      have ne : a ≠ p := fun q => by rw [q, hp] at hu; cases hu
      exact ⟨a, e.ix ha, r'.mono e (upd_ne ne)⟩
    · have hl2 : M.length ≤ i := Nat.le_of_not_lt hl
      rw [List.getElem?_append_right hl2] at hi
      have h0 : i - M.length = 0 := by
        have := (List.getElem?_eq_some_iff.mp hi).1
        simp at this
        omega
      rw [h0] at hi
      cases hi
      refine ⟨p, ?_, r⟩
      rw [List.getElem?_append_right (by rw [h.len]; exact hl2), h.len, h0]
      rfl
/-- an object is written -/
theorem RH.set (h : RH C ρ H M) {i : Nat} {a : Addr} {o : HO} {ob : MO} (ha : ρ[i]? = some a) (r : RO C (upd H a o) ρ ob a) : RH C ρ (upd H a o) (M.set i ob) := by
  obtain ⟨ob0, hm, r0⟩ := h.there ha
  obtain ⟨u, hu, mu⟩ := r0.mut
  have e : Ext C.K ρ ρ H (upd H a o) := Ext.wr (C := C) hu mu (List.mem_of_getElem? ha)
  have hl := (List.getElem?_eq_some_iff.mp hm).1
  refine ⟨by rw [List.length_set]; exact h.len, h.nd, fun j ob' hj => ?_⟩
  by_cases hji : j = i
  · subst hji
    rw [List.getElem?_set_self hl] at hj
    cases hj
    exact ⟨a, ha, r⟩
  · rw [List.getElem?_set_ne (Ne.symm hji)] at hj
    obtain ⟨b, hb, r'⟩ := h.ob j ob' hj
    have ne : b ≠ a := fun q => by
      subst q
      exact hji (nodup_ixA h.nd hb ha)
    exact ⟨b, hb, r'.mono e (upd_ne ne)⟩
where
  nodup_ixA {l : List Addr} (hN : l.Nodup) {i j : Nat} {x : Addr} (a : l[i]? = some x) (b : l[j]? = some x) : i = j := by
    obtain ⟨h1, e1⟩ := List.getElem?_eq_some_iff.mp a
    obtain ⟨h2, e2⟩ := List.getElem?_eq_some_iff.mp b
    exact (List.getElem_inj hN).mp (e1.trans e2.symm)
end

/-! ### the slots -/
structure RE (K : PySem.W.Frag) (H : Hp) (ρ : List Addr) (env : Env) (σ : L2.St) : Prop where
  len : σ.length = env.length
  at_ : ∀ (i : Nat) (d : MV), env[i]? = some (some d) → ∃ v, σ[i]? = some (some v) ∧ RV K H ρ d v
section
variable {K : PySem.W.Frag} {ρ ρ' : List Addr} {H H' : Hp} {env : Env} {σ : L2.St}
theorem RE.mo (e : Mo K ρ ρ' H H') (h : RE K H ρ env σ) : RE K H' ρ' env σ := ⟨h.len, fun i d q => by
  obtain ⟨v, e1, r⟩ := h.at_ i d q
  exact ⟨v, e1, r.mo e⟩⟩
theorem RE.mono (e : Ext K ρ ρ' H H') (h : RE K H ρ env σ) : RE K H' ρ' env σ := ⟨h.len, fun i d q => by
  obtain ⟨v, e1, r⟩ := h.at_ i d q
  exact ⟨v, e1, r.mono e⟩⟩
theorem RE.set (h : RE K H ρ env σ) (i : Nat) {d : MV} {v : V} (r : RV K H ρ d v) : RE K H ρ (env.set i (some d)) (σ.set i (some v)) := by
  refine ⟨by rw [List.length_set, List.length_set]; exact h.len, fun j d' q => ?_⟩
  by_cases hj : j = i
  · subst hj
    have hl : j < env.length := by
      have := (List.getElem?_eq_some_iff.mp q).1
      simpa using this
    rw [List.getElem?_set_self hl] at q
    cases q
    exact ⟨v, List.getElem?_set_self (by rw [h.len]; exact hl), r⟩
  · rw [List.getElem?_set_ne (Ne.symm hj)] at q
    obtain ⟨v', e1, r'⟩ := h.at_ j d' q
    exact ⟨v', by rw [List.getElem?_set_ne (Ne.symm hj)]; exact e1, r'⟩
theorem RE.none (h : RE K H ρ env σ) (i : Nat) (x : Option V) : RE K H ρ (env.set i none) (σ.set i x) := by
  refine ⟨by rw [List.length_set, List.length_set]; exact h.len, fun j d' q => ?_⟩
  by_cases hj : j = i
  · subst hj
    have hl : j < env.length := by
      have := (List.getElem?_eq_some_iff.mp q).1
      simpa using this
    rw [List.getElem?_set_self hl] at q
    cases q
  · rw [List.getElem?_set_ne (Ne.symm hj)] at q
    obtain ⟨v', e1, r'⟩ := h.at_ j d' q
    exact ⟨v', by rw [List.getElem?_set_ne (Ne.symm hj)]; exact e1, r'⟩
theorem RE.wipe (h : RE K H ρ env σ) : ∀ vs : List Nat, RE K H ρ (wipeE env vs) (L2.wipe σ vs)
  | [] => h
  | v :: vs => (RE.wipe h vs).none v Option.none
end
end Mi
set_option maxRecDepth 100000
/-! What a piece of syntax does, by the small language. -/
namespace Mi
open PySem PySem.Spec PyProof.Rows L2
def RX (C : Cfg) (H : Hp) (ρ : List Addr) (x : MX) (cls : Value) (dd : Option Addr) : Prop :=
  cls = .ref (C.cA x.cls) ∧ match x.fs, dd with
    | none, none => True
    | some fs, some a => ∃ gs, H a = some (.xd gs) ∧ RF C.K H ρ fs gs
    | _, _ => False
def Post {α : Type} (C : Cfg) (ρ : List Addr) (H : Hp) (r : R α) (F : α → Hm → List Addr → Hp → Prop) (G : MX → Hm → List Addr → Hp → Prop) : Prop :=
  match r with
  | .ok a M' => ∀ ρ' H', Ext C.K ρ ρ' H H' → RH C ρ' H' M' → F a M' ρ' H'
  | .exc x M' => ∀ ρ' H', Ext C.K ρ ρ' H H' → RH C ρ' H' M' → G x M' ρ' H'
  | .bad => False
section
variable {α β : Type} {C : Cfg} {ρ ρ' : List Addr} {H H' : Hp} {r : R α} {f : α → Hm → R β}
theorem Post.ext {F : α → Hm → List Addr → Hp → Prop} {G : MX → Hm → List Addr → Hp → Prop} (p : Post C ρ H r F G) (e : Ext C.K ρ ρ' H H') : Post C ρ' H' r F G := by
  cases r with
  | ok a M => exact fun ρ2 H2 e2 => p ρ2 H2 (e.trans e2)
  | exc x M => exact fun ρ2 H2 e2 => p ρ2 H2 (e.trans e2)
  | bad => exact p
theorem Post.imp {F F' : α → Hm → List Addr → Hp → Prop} {G G' : MX → Hm → List Addr → Hp → Prop} (p : Post C ρ H r F G)
    (hf : ∀ a M' ρ' H', Ext C.K ρ ρ' H H' → RH C ρ' H' M' → F a M' ρ' H' → F' a M' ρ' H') (hg : ∀ x M' ρ' H', Ext C.K ρ ρ' H H' → RH C ρ' H' M' → G x M' ρ' H' → G' x M' ρ' H') : Post C ρ H r F' G' := by
  cases r with
  | ok a M => exact fun ρ2 H2 e2 h2 => hf _ _ _ _ e2 h2 (p ρ2 H2 e2 h2)
  | exc x M => exact fun ρ2 H2 e2 h2 => hg _ _ _ _ e2 h2 (p ρ2 H2 e2 h2)
  | bad => exact p
theorem Post.bind {F : β → Hm → List Addr → Hp → Prop} {G : MX → Hm → List Addr → Hp → Prop} (p : Post C ρ H (r.bind f) F G) : Post C ρ H r (fun a M' ρ' H' => Post C ρ' H' (f a M') F G) G := by
  cases r with
  | ok a M =>
    have p' : Post C ρ H (f a M) F G := p
    exact fun ρ2 H2 e2 _ => p'.ext e2
  | exc x M => exact p
  | bad => exact p
theorem Post.bindN {F : β → Hm → List Addr → Hp → Prop} {G : MX → Hm → List Addr → Hp → Prop} (p : Post C ρ H (r.bindN f) F G) : Post C ρ H r (fun a M' ρ' H' => Post C ρ' H' (f a M') F G) (fun _ _ _ _ => False) := by
  cases r with
  | ok a M =>
    have p' : Post C ρ H (f a M) F G := p
    exact fun ρ2 H2 e2 _ => p'.ext e2
  | exc x M => exact p.elim
  | bad => exact p
theorem Post.now {a : α} {M : Hm} {F : α → Hm → List Addr → Hp → Prop} {G : MX → Hm → List Addr → Hp → Prop} (p : Post C ρ H (.ok a M) F G) (h : RH C ρ H M) : F a M ρ H := p ρ H Ext.refl h
end

/-- what a piece that gives a value asks -/
def tG {α β : Type} (C : Cfg) (W : WX) (rel : Hp → List Addr → α → β → Prop) (f : Env → Hm → R α) : L2.St → Hp → (β → Hp → Prop) → Prop := fun σ H Q =>
  ∃ ρ M env, RH C ρ H M ∧ RE C.K H ρ env σ ∧ Post C ρ H (f env M) (fun d _ ρ' H' => ∀ v, rel H' ρ' d v → Q v H') (fun x _ ρ' H' => ∀ cls dd, RX C H' ρ' x cls dd → W cls dd σ H')
abbrev tE (C : Cfg) (W : WX) (f : Fe) : TE := tG C W (RV C.K) f
abbrev tT (C : Cfg) (W : WX) (f : Ft) : TT := tG C W (fun _ _ a b => b = a) f
abbrev tA (C : Cfg) (W : WX) (f : Fa) : TA := tG C W (RVs C.K) f

theorem PE.imp {X : Cx} {e : Expr} {t t' : TE} (h : PE X e t) (hi : ∀ σ H Q, t' σ H Q → t σ H Q) : PE X e t' := ⟨fun pins s σ H Q I q => h.run pins s σ H Q I (hi σ H Q q)⟩
theorem PT.imp {X : Cx} {e : Expr} {t t' : TT} (h : PT X e t) (hi : ∀ σ H Q, t' σ H Q → t σ H Q) : PT X e t' := ⟨fun pins s σ H Q I q => h.run pins s σ H Q I (hi σ H Q q)⟩
theorem PW.imp {X : Cx} {e : Expr} {t t' : TT} (h : PW X e t) (hi : ∀ σ H Q, t' σ H Q → t σ H Q) : PW X e t' := ⟨fun wh pins s σ H Q I q => h.run wh pins s σ H Q I (hi σ H Q q)⟩
theorem PA.imp {X : Cx} {e : List Expr} {t t' : TA} (h : PA X e t) (hi : ∀ σ H Q, t' σ H Q → t σ H Q) : PA X e t' := ⟨fun p pins s σ H Q I q => h.run p pins s σ H Q I (hi σ H Q q)⟩
theorem PS.imp {X : Cx} {e : Stmt} {t t' : TS} (h : PS X e t) (hi : ∀ D σ H, t' D σ H → t D σ H) : PS X e t' := ⟨fun pins s σ H D I q => h.run pins s σ H D I (hi D σ H q)⟩
theorem PSs.imp {X : Cx} {e : List Stmt} {t t' : TS} (h : PSs X e t) (hi : ∀ D σ H, t' D σ H → t D σ H) : PSs X e t' := ⟨fun pins s σ H D I q => h.run pins s σ H D I (hi D σ H q)⟩
theorem PG.imp {X : Cx} {e : Expr} {t t' : TG} (h : PG X e t) (hi : ∀ v σ H Q, t' v σ H Q → t v σ H Q) : PG X e t' := ⟨fun pins s σ H v u Q I r q => h.run pins s σ H v u Q I r (hi v σ H Q q)⟩
theorem PGs.imp {X : Cx} {e : List Expr} {t t' : TGs} (h : PGs X e t) (hi : ∀ v σ H Q, t' v σ H Q → t v σ H Q) : PGs X e t' := ⟨fun pins s σ H v u Q I r q => h.run pins s σ H v u Q I r (hi v σ H Q q)⟩
theorem PI.imp {X : Cx} {tg e : Expr} {t t' : TI} (h : PI X tg e t) (hi : ∀ σ H Q, t' σ H Q → t σ H Q) : PI X tg e t' := ⟨fun pins s σ H R I q => h.run pins s σ H R I (hi σ H R q)⟩

/-! ### a value's operations -/
def Sim2 (C : Cfg) (f : MV → MV → Hm → R MV) (r : R2) : Prop := ∀ (ρ : List Addr) (H : Hp) (M : Hm) (d e : MV) (x y : V) (Q : VK) (G : MX → Hm → List Addr → Hp → Prop), RH C ρ H M → RV C.K H ρ d x → RV C.K H ρ e y →
  Post C ρ H (f d e M) (fun z _ ρ' H' => ∀ v, RV C.K H' ρ' z v → Q v H') G → r x y H Q
def Sim1 (C : Cfg) (f : MV → Hm → R MV) (r : V → Hp → VK → Prop) : Prop := ∀ (ρ : List Addr) (H : Hp) (M : Hm) (d : MV) (x : V) (Q : VK) (G : MX → Hm → List Addr → Hp → Prop), RH C ρ H M → RV C.K H ρ d x →
  Post C ρ H (f d M) (fun z _ ρ' H' => ∀ v, RV C.K H' ρ' z v → Q v H') G → r x H Q
def SimC (C : Cfg) (f : List MV → Hm → R MV) (r : List V → Hp → VK → Prop) : Prop := ∀ (ρ : List Addr) (H : Hp) (M : Hm) (ds : List MV) (xs : List V) (Q : VK) (G : MX → Hm → List Addr → Hp → Prop), RH C ρ H M → RVs C.K H ρ ds xs →
  Post C ρ H (f ds M) (fun z _ ρ' H' => ∀ v, RV C.K H' ρ' z v → Q v H') G → r xs H Q
def SimM (C : Cfg) (f : MV → List MV → Hm → R MV) (r : V → List V → Hp → VK → Prop) : Prop := ∀ (ρ : List Addr) (H : Hp) (M : Hm) (d : MV) (ds : List MV) (x : V) (xs : List V) (Q : VK) (G : MX → Hm → List Addr → Hp → Prop), RH C ρ H M → RV C.K H ρ d x → RVs C.K H ρ ds xs →
  Post C ρ H (f d ds M) (fun z _ ρ' H' => ∀ v, RV C.K H' ρ' z v → Q v H') G → r x xs H Q

section
variable {X : Cx} {C : Cfg} {W : WX}
theorem m_var {i : Nat} {x : Str} {pos : Pos} (hN : X.N[i]? = some x := by rfl) (hv : Vis X.env.scope x := by first | exact Or.inl rfl | exact Or.inr (Or.inl rfl) | exact Or.inr (Or.inr rfl)) (hd : (x == ("__debug__" : Str)) = false := by decide)
    (hcd : (x == ("__classdict__" : Str)) = false := by decide) : PE X (.Name x pos) (tE C W (eVar i)) := by
  refine PE.imp (pe_var hN hv hd hcd) fun σ H Q h => ?_
  obtain ⟨ρ, M, env, rh, re, p⟩ := h
  unfold eVar at p
  split at p
  · rename_i d e
    obtain ⟨v, e1, r⟩ := re.at_ i d e
    exact ⟨v, e1, p.now rh v r⟩
  · exact p.elim
/-- a constant, whatever it is written by -/
theorem m_const {e : Expr} {v : V} {d : MV} (h : PE X e (tC v)) (r : ∀ H ρ, RV C.K H ρ d v) : PE X e (tE C W (eC d)) := by
  refine PE.imp h fun σ H Q h => ?_
  obtain ⟨ρ, M, env, rh, re, p⟩ := h
  exact p.now rh v (r _ _)
theorem m_int {i : Int} {j : Nat} {pos : Pos} : PE X (.Constant (.int i) j pos) (tE C W (eC (.int i))) := m_const pe_int fun _ _ => by unfold RV; rfl
theorem m_bl {b : Bool} {j : Nat} {pos : Pos} : PE X (.Constant (.bool b) j pos) (tE C W (eC (.bl b))) := m_const pe_bl fun _ _ => by unfold RV; rfl
theorem m_non {j : Nat} {pos : Pos} : PE X (.Constant .none j pos) (tE C W (eC .non)) := m_const pe_non fun _ _ => by unfold RV; rfl
theorem m_str {x : Str} {l : Tx} {j : Nat} {pos : Pos} (h : x = T l := by rfl) : PE X (.Constant (.str x) j pos) (tE C W (eC (.str l))) := m_const pe_str fun _ _ => by unfold RV; rw [h]
/-- a constant of the module -/
theorem m_glob {x : Str} {v : V} {d : MV} {u : Value} {pos : Pos} (hm : X.mg x = some u) (r : RelV v u) (rd : ∀ H ρ, RV C.K H ρ d v) (hg : Gl X x := by rfl) (hd : (x == ("__debug__" : Str)) = false := by decide) : PE X (.Name x pos) (tE C W (eC d)) :=
  m_const (pe_glob hg hm r hd) rd

theorem m_op {op : Operator} {r : R2} {f : MV → MV → Hm → R MV} {a b : Expr} {a' b' : Fe} {pos : Pos} (ho : OpR X (binaryOp op) r) (hs : Sim2 C f r) (ha : PE X a (tE C W a')) (hb : PE X b (tE C W b')) : PE X (.BinOp a op b pos) (tE C W (eOp f a' b')) := by
  refine PE.imp (pe_op ho ha hb) fun σ H Q h => ?_
  obtain ⟨ρ, M, env, rh, re, p⟩ := h
  refine ⟨ρ, M, env, rh, re, p.bind.imp (fun d M1 ρ1 H1 e1 rh1 p2 v rv => ?_) (fun _ _ _ _ _ _ q => q)⟩
  exact ⟨ρ1, M1, env, rh1, re.mono e1, p2.bind.imp (fun d2 M2 ρ2 H2 e2 rh2 p3 w rw => hs ρ2 H2 M2 d d2 v w Q _ rh2 (rv.mono e2) rw p3) (fun _ _ _ _ _ _ q => q)⟩
theorem m_cmp {op : CmpOp} {r : R2} {f : MV → MV → Hm → R MV} {a b : Expr} {a' b' : Fe} {pos : Pos} (ho : OpR X (compareOp op) r) (hs : Sim2 C f r) (ha : PE X a (tE C W a')) (hb : PE X b (tE C W b')) (hm : behindInMarks op b = false := by first | exact nomark _ | rfl) :
    PE X (.Compare a [op] [b] pos) (tE C W (eOp f a' b')) := by
  refine PE.imp (pe_cmpR ho ha hb hm) fun σ H Q h => ?_
  obtain ⟨ρ, M, env, rh, re, p⟩ := h
  refine ⟨ρ, M, env, rh, re, p.bind.imp (fun d M1 ρ1 H1 e1 rh1 p2 v rv => ?_) (fun _ _ _ _ _ _ q => q)⟩
  exact ⟨ρ1, M1, env, rh1, re.mono e1, p2.bind.imp (fun d2 M2 ρ2 H2 e2 rh2 p3 w rw => hs ρ2 H2 M2 d d2 v w Q _ rh2 (rv.mono e2) rw p3) (fun _ _ _ _ _ _ q => q)⟩
/-- a comparison as a test -/
theorem mt_cmp {op : CmpOp} {r : R2} {f : MV → MV → Hm → R MV} {a b : Expr} {a' b' : Fe} {pos : Pos} (ho : OpR X (compareOp op) r) (hs : Sim2 C f r) (ha : PE X a (tE C W a')) (hb : PE X b (tE C W b')) (hm : behindInMarks op b = false := by first | exact nomark _ | rfl) :
    PT X (.Compare a [op] [b] pos) (tT C W (cB (eOp f a' b'))) := by
  refine PT.imp (pt_cmpR ho ha hb hm) fun σ H Q h => ?_
  obtain ⟨ρ, M, env, rh, re, p⟩ := h
  have p := p.bind
  refine ⟨ρ, M, env, rh, re, p.bind.imp (fun d M1 ρ1 H1 e1 rh1 p2 v rv => ?_) (fun _ _ _ _ _ _ q => q)⟩
  refine ⟨ρ1, M1, env, rh1, re.mono e1, p2.bind.imp (fun d2 M2 ρ2 H2 e2 rh2 p3 w rw => hs ρ2 H2 M2 d d2 v w _ _ rh2 (rv.mono e2) rw (p3.imp (fun z M3 ρ3 H3 e3 rh3 p4 u ru => ?_) (fun _ _ _ _ _ _ q => q))) (fun _ _ _ _ _ _ q => q)⟩
  cases z with
  | bl k =>
    unfold RV at ru
    exact ⟨k, ru, p4.now rh3 k rfl⟩
  | _ => exact p4.elim
theorem m_un {op : UnaryOp} {r : V → Hp → VK → Prop} {f : MV → Hm → R MV} {a : Expr} {a' : Fe} {pos : Pos} (ho : UnR X (unaryOp op) r) (hs : Sim1 C f r) (ha : PE X a (tE C W a')) : PE X (.UnaryOp op a pos) (tE C W (eUn f a')) := by
  refine PE.imp (pe_un ho ha) fun σ H Q h => ?_
  obtain ⟨ρ, M, env, rh, re, p⟩ := h
  exact ⟨ρ, M, env, rh, re, p.bind.imp (fun d M1 ρ1 H1 e1 rh1 p2 v rv => hs ρ1 H1 M1 d v Q _ rh1 rv p2) (fun _ _ _ _ _ _ q => q)⟩

/-! ### tests -/
/-- an expression of any kind as a test -/
theorem mt_val {a : Expr} {a' : Fe} (ha : PE X a (tE C W a')) (hC : C.K = X.K) (he : ∀ whole, isTrue a X.env whole = (do let v ← whole; standAt a.pos; holding [v] (truthy v)) := by intro _; rfl) : PT X a (tT C W (cV a')) := by
  refine PT.imp (pt_truth ha he) fun σ H Q h => ?_
  obtain ⟨ρ, M, env, rh, re, p⟩ := h
  refine ⟨ρ, M, env, rh, re, p.bind.imp (fun d M1 ρ1 H1 e1 rh1 p2 v rv => ?_) (fun _ _ _ _ _ _ q => q)⟩
  have key : ∀ {b : Bool}, TruV X.K v H1 b → truth M1 d = some b → ∃ k, TruV X.K v H1 k ∧ Q k H1 := fun {b} t q => by
    refine ⟨b, t, ?_⟩
    rw [q] at p2
    exact p2.now rh1 b rfl
  have bad : truth M1 d = none → ∃ k, TruV X.K v H1 k ∧ Q k H1 := fun q => by
    rw [q] at p2
    exact p2.elim
  have emp : ∀ {ds : List MV} {xs : List V}, RVs C.K H1 ρ1 ds xs → (!ds.isEmpty) = !xs.isEmpty := fun {ds xs} r => by
    have := r.len
    cases ds <;> cases xs <;> simp_all
  cases d with
  | non => unfold RV at rv; subst rv; exact key (b := false) (by show false = false; rfl) rfl
  | bl b => unfold RV at rv; subst rv; exact key (b := b) (by show b = b; rfl) rfl
  | int i => unfold RV at rv; subst rv; exact key (b := (i != 0)) (by show (i != 0) = (i != 0); rfl) rfl
  | str s =>
    unfold RV at rv; subst rv
    by_cases hl : s.length ≤ SL
    · refine key (b := !s.isEmpty) ⟨by rw [T_len, sizeLine_eq]; exact hl, ?_⟩ (by simp only [truth, if_pos hl])
      rw [T_len]
      cases s <;> simp <;> omega
    · exact bad (by simp only [truth, if_neg hl])
  | tup l =>
    unfold RV at rv
    obtain ⟨a, xs, rfl, h2, h3⟩ := rv
    exact key (b := !l.isEmpty) (.inr (.inl ⟨xs, by rw [← hC]; exact h2, emp h3⟩)) rfl
  | rol l =>
    unfold RV at rv
    obtain ⟨a, xs, rfl, h2, h3⟩ := rv
    exact key (b := !l.isEmpty) (.inl ⟨xs, by rw [← hC]; exact h2.sq, emp h3⟩) rfl
  | ref i =>
    unfold RV at rv
    obtain ⟨a, h1, rfl⟩ := rv
    cases hm : M1[i]? with
    | none => exact bad (by simp only [truth, hm])
    | some o =>
      have ro := rh1.at hm h1
      cases o with
      | lst l =>
        obtain ⟨xs, q1, q2⟩ := ro
        exact key (b := !l.isEmpty) (.inl ⟨xs, SqL.of q1, emp q2⟩) (by simp only [truth, hm])
      | dic l =>
        obtain ⟨ks, q1, q2⟩ := ro
        refine key (b := !l.isEmpty) (.inr (.inr ⟨ks, q1, ?_⟩)) (by simp only [truth, hm])
        cases l with
        | nil => cases (show ks = [] from q2); rfl
        | cons p r =>
          obtain ⟨k, d⟩ := p
          obtain ⟨k', v, t, rfl, _⟩ := q2
          rfl
      | ins c fs => exact bad (by simp only [truth, hm])
theorem mt_not {a : Expr} {a' : Ft} {pos : Pos} (ha : PT X a (tT C W a')) : PT X (.UnaryOp .Not a pos) (tT C W (cNot a')) := by
  refine PT.imp (pt_not ha) fun σ H Q h => ?_
  obtain ⟨ρ, M, env, rh, re, p⟩ := h
  exact ⟨ρ, M, env, rh, re, p.bind.imp (fun d M1 ρ1 H1 e1 rh1 p2 v rv => by subst rv; exact p2.now rh1 _ rfl) (fun _ _ _ _ _ _ q => q)⟩
theorem mw_and1 {a : Expr} {a' : Ft} {pos : Pos} (ha : PT X a (tT C W a')) : PW X (.BoolOp .And [a] pos) (tT C W a') := pw_and1 ha
theorem mw_or1 {a : Expr} {a' : Ft} {pos : Pos} (ha : PT X a (tT C W a')) : PW X (.BoolOp .Or [a] pos) (tT C W a') := pw_or1 ha
theorem mw_and {a b : Expr} {rest : List Expr} {a' b' : Ft} {pos : Pos} (ha : PT X a (tT C W a')) (hb : PW X (.BoolOp .And (b :: rest) pos) (tT C W b')) : PW X (.BoolOp .And (a :: b :: rest) pos) (tT C W (cAnd a' b')) := by
  refine PW.imp (pw_and ha hb) fun σ H Q h => ?_
  obtain ⟨ρ, M, env, rh, re, p⟩ := h
  refine ⟨ρ, M, env, rh, re, p.bind.imp (fun d M1 ρ1 H1 e1 rh1 p2 v rv => ?_) (fun _ _ _ _ _ _ q => q)⟩
  subst rv
  cases v with
  | true => exact ⟨ρ1, M1, env, rh1, re.mono e1, p2⟩
  | false => exact p2.now rh1 _ rfl
theorem mw_or {a b : Expr} {rest : List Expr} {a' b' : Ft} {pos : Pos} (ha : PT X a (tT C W a')) (hb : PW X (.BoolOp .Or (b :: rest) pos) (tT C W b')) : PW X (.BoolOp .Or (a :: b :: rest) pos) (tT C W (cOr a' b')) := by
  refine PW.imp (pw_or ha hb) fun σ H Q h => ?_
  obtain ⟨ρ, M, env, rh, re, p⟩ := h
  refine ⟨ρ, M, env, rh, re, p.bind.imp (fun d M1 ρ1 H1 e1 rh1 p2 v rv => ?_) (fun _ _ _ _ _ _ q => q)⟩
  subst rv
  cases v with
  | false => exact ⟨ρ1, M1, env, rh1, re.mono e1, p2⟩
  | true => exact p2.now rh1 _ rfl
theorem m_one {op : BoolOp} {a : Expr} {a' : Fe} {pos : Pos} (ha : PE X a (tE C W a')) : PE X (.BoolOp op [a] pos) (tE C W a') := pe_one ha
theorem m_and {a b : Expr} {rest : List Expr} {a' b' : Fe} {pos : Pos} (ha : PE X a (tE C W a')) (hb : PE X (.BoolOp .And (b :: rest) pos) (tE C W b')) : PE X (.BoolOp .And (a :: b :: rest) pos) (tE C W (eAnd a' b')) := by
  refine PE.imp (pe_and ha hb) fun σ H Q h => ?_
  obtain ⟨ρ, M, env, rh, re, p⟩ := h
  refine ⟨ρ, M, env, rh, re, p.bind.imp (fun d M1 ρ1 H1 e1 rh1 p2 v rv => ?_) (fun _ _ _ _ _ _ q => q)⟩
  cases d with
  | bl k =>
    unfold RV at rv
    refine ⟨k, rv, ?_⟩
    cases k with
    | true => exact ⟨ρ1, M1, env, rh1, re.mono e1, p2⟩
    | false => exact p2.now rh1 _ (by unfold RV; rfl)
  | _ => exact p2.elim
theorem m_or {a b : Expr} {rest : List Expr} {a' b' : Fe} {pos : Pos} (ha : PE X a (tE C W a')) (hb : PE X (.BoolOp .Or (b :: rest) pos) (tE C W b')) : PE X (.BoolOp .Or (a :: b :: rest) pos) (tE C W (eOr a' b')) := by
  refine PE.imp (pe_or ha hb) fun σ H Q h => ?_
  obtain ⟨ρ, M, env, rh, re, p⟩ := h
  refine ⟨ρ, M, env, rh, re, p.bind.imp (fun d M1 ρ1 H1 e1 rh1 p2 v rv => ?_) (fun _ _ _ _ _ _ q => q)⟩
  cases d with
  | bl k =>
    unfold RV at rv
    refine ⟨k, rv, ?_⟩
    cases k with
    | false => exact ⟨ρ1, M1, env, rh1, re.mono e1, p2⟩
    | true => exact p2.now rh1 _ (by unfold RV; rfl)
  | _ => exact p2.elim
/-- not a as a value, a any test (through a bool) -/
theorem m_not {a : Expr} {a' : Fe} {pos : Pos} (ha : PE X a (tE C W a')) : PE X (.UnaryOp .Not a pos) (tE C W (eT (cNot (cB a')))) := by
  refine PE.imp (pe_not ha) fun σ H Q h => ?_
  obtain ⟨ρ, M, env, rh, re, p⟩ := h
  have p := p.bind.bind.bind
  refine ⟨ρ, M, env, rh, re, p.imp (fun d M1 ρ1 H1 e1 rh1 p2 v rv => ?_) (fun _ _ _ _ _ _ q => q)⟩
  cases d with
  | bl k =>
    unfold RV at rv
    exact ⟨k, rv, ((p2.now rh1).now rh1).now rh1 _ (by unfold RV; rfl)⟩
  | _ => exact p2.elim
theorem m_ifExp {c a b : Expr} {c' : Ft} {a' b' : Fe} {pos : Pos} (hc : PT X c (tT C W c')) (ha : PE X a (tE C W a')) (hb : PE X b (tE C W b')) : PE X (.IfExp c a b pos) (tE C W (eIf c' a' b')) := by
  refine PE.imp (pe_ifExp hc ha hb) fun σ H Q h => ?_
  obtain ⟨ρ, M, env, rh, re, p⟩ := h
  refine ⟨ρ, M, env, rh, re, p.bind.imp (fun d M1 ρ1 H1 e1 rh1 p2 v rv => ?_) (fun _ _ _ _ _ _ q => q)⟩
  subst rv
  cases v with
  | true => exact ⟨ρ1, M1, env, rh1, re.mono e1, p2⟩
  | false => exact ⟨ρ1, M1, env, rh1, re.mono e1, p2⟩

/-! ### displays, arguments -/
theorem ma_nil : PA X [] (tA C W aNil) := PA.imp pa_nil fun σ H Q h => by
  obtain ⟨ρ, M, env, rh, re, p⟩ := h
  exact p.now rh [] RVs.nil
theorem ma_cons {e : Expr} {es : List Expr} {a' : Fe} {r' : Fa} (ha : PE X e (tE C W a')) (hr : PA X es (tA C W r')) (hs : starEach (e :: es) X.env = (false, eval e X.env) :: starEach es X.env := by rfl) : PA X (e :: es) (tA C W (aCons a' r')) := by
  refine PA.imp (pa_cons ha hr hs) fun σ H Q h => ?_
  obtain ⟨ρ, M, env, rh, re, p⟩ := h
  refine ⟨ρ, M, env, rh, re, p.bind.imp (fun d M1 ρ1 H1 e1 rh1 p2 v rv => ?_) (fun _ _ _ _ _ _ q => q)⟩
  exact ⟨ρ1, M1, env, rh1, re.mono e1, p2.bind.imp (fun ds M2 ρ2 H2 e2 rh2 p3 vs rvs => p3.now rh2 _ (RVs.cons (rv.mono e2) rvs)) (fun _ _ _ _ _ _ q => q)⟩
theorem m_tup {es : List Expr} {t' : Fa} {k : Nat} {pos : Pos} (ht : PA X es (tA C W t')) : PE X (.Tuple es k pos) (tE C W (eTup t')) := by
  refine PE.imp (pe_tup ht) fun σ H Q h => ?_
  obtain ⟨ρ, M, env, rh, re, p⟩ := h
  refine ⟨ρ, M, env, rh, re, p.bind.imp (fun ds M1 ρ1 H1 e1 rh1 p2 vs rvs => ?_) (fun _ _ _ _ _ _ q => q)⟩
  by_cases hl : ds.length ≤ SL
  · rw [if_pos hl] at p2
    refine ⟨by rw [rvs.len, sizeLine_eq]; exact hl, fun a ha => ?_⟩
    have e2 : Ext C.K ρ1 ρ1 H1 (upd H1 a (.tup vs)) := Ext.new (C := C) ha
    refine p2 ρ1 _ e2 (rh1.beside ha) (.ref a) ?_
    unfold RV
    exact ⟨a, vs, rfl, SqT.of upd_same, rvs.mono e2⟩
  · rw [if_neg hl] at p2
    exact p2.elim
theorem m_lst {es : List Expr} {t' : Fa} {pos : Pos} (ht : PA X es (tA C W t')) : PE X (.List es pos) (tE C W (eLst t')) := by
  refine PE.imp (pe_lst ht) fun σ H Q h => ?_
  obtain ⟨ρ, M, env, rh, re, p⟩ := h
  refine ⟨ρ, M, env, rh, re, p.bind.imp (fun ds M1 ρ1 H1 e1 rh1 p2 vs rvs => ?_) (fun _ _ _ _ _ _ q => q)⟩
  by_cases hl : ds.length ≤ SL
  · rw [if_pos hl] at p2
    refine ⟨by rw [rvs.len, sizeLine_eq]; exact hl, fun a ha => ?_⟩
    have e2 : Ext C.K ρ1 (ρ1 ++ [a]) H1 (upd H1 a (.lst vs)) := Ext.new1 (C := C) ha
    refine p2 _ _ e2 (rh1.push ha ⟨vs, upd_same, rvs.mono e2⟩) (.ref a) ?_
    unfold RV
    refine ⟨a, ?_, rfl⟩
    rw [← rh1.len, List.getElem?_append_right (Nat.le_refl _), Nat.sub_self]
    rfl
  · rw [if_neg hl] at p2
    exact p2.elim
end
end Mi
set_option maxRecDepth 100000
/-! What nobody can come to any more may be left out. -/
namespace Mi
open PySem PySem.Spec PyProof.Rows L2
mutual
theorem beqV_eq : ∀ {a b : MV}, beqV a b = true → a = b
  | .non, b, h => by cases b <;> first | rfl | (unfold beqV at h; cases h)
  | .bl a, b, h => by cases b <;> first | (unfold beqV at h; rw [beq_iff_eq] at h; rw [h]; done) | (unfold beqV at h; cases h)
  | .int a, b, h => by cases b <;> first | (unfold beqV at h; rw [decide_eq_true_eq] at h; rw [h]; done) | (unfold beqV at h; cases h)
  | .str a, b, h => by cases b <;> first | (unfold beqV at h; rw [decide_eq_true_eq] at h; rw [h]; done) | (unfold beqV at h; cases h)
  | .tup a, b, h => by cases b <;> first | (unfold beqV at h; rw [beqVs_eq h]; done) | (unfold beqV at h; cases h)
  | .ref a, b, h => by cases b <;> first | (unfold beqV at h; rw [decide_eq_true_eq] at h; rw [h]; done) | (unfold beqV at h; cases h)
  | .rol a, b, h => by cases b <;> first | (unfold beqV at h; rw [beqVs_eq h]; done) | (unfold beqV at h; cases h)
theorem beqVs_eq : ∀ {a b : List MV}, beqVs a b = true → a = b
  | [], b, h => by cases b <;> first | rfl | (unfold beqVs at h; cases h)
  | x :: l, b, h => by
    cases b with
    | nil => unfold beqVs at h; cases h
    | cons y m =>
      unfold beqVs at h
      rw [Bool.and_eq_true] at h
      rw [beqV_eq h.1, beqVs_eq h.2]
end
mutual
theorem beqV_rfl : ∀ a : MV, beqV a a = true
  | .non => by unfold beqV; rfl
  | .bl a => by unfold beqV; simp
  | .int a => by unfold beqV; simp
  | .str a => by unfold beqV; simp
  | .tup a => by unfold beqV; exact beqVs_rfl a
  | .ref a => by unfold beqV; simp
  | .rol a => by unfold beqV; exact beqVs_rfl a
theorem beqVs_rfl : ∀ a : List MV, beqVs a a = true
  | [] => by unfold beqVs; rfl
  | x :: l => by unfold beqVs; rw [beqV_rfl x, beqVs_rfl l]; rfl
end
theorem beqP_eq : ∀ {a b : List (MV × MV)}, beqP a b = true → a = b
  | [], [], _ => rfl
  | [], (_, _) :: _, h => by unfold beqP at h; cases h
  | (_, _) :: _, [], h => by unfold beqP at h; cases h
  | (x, x') :: l, (y, y') :: m, h => by
    unfold beqP at h
    rw [Bool.and_eq_true, Bool.and_eq_true] at h
    rw [beqV_eq h.1.1, beqV_eq h.1.2, beqP_eq h.2]
theorem beqP_rfl : ∀ a : List (MV × MV), beqP a a = true
  | [] => rfl
  | (x, y) :: l => by unfold beqP; rw [beqV_rfl x, beqV_rfl y, beqP_rfl l]; rfl
theorem beqF_eq : ∀ {a b : List (Tx × MV)}, beqF a b = true → a = b
  | [], [], _ => rfl
  | [], (_, _) :: _, h => by unfold beqF at h; cases h
  | (_, _) :: _, [], h => by unfold beqF at h; cases h
  | (x, x') :: l, (y, y') :: m, h => by
    unfold beqF at h
    rw [Bool.and_eq_true, Bool.and_eq_true, decide_eq_true_eq] at h
    rw [h.1.1, beqV_eq h.1.2, beqF_eq h.2]
theorem beqF_rfl : ∀ a : List (Tx × MV), beqF a a = true
  | [] => rfl
  | (x, y) :: l => by unfold beqF; rw [decide_eq_true (rfl : x = x), beqV_rfl y, beqF_rfl l]; rfl
theorem beqO_eq : ∀ {a b : MO}, beqO a b = true → a = b
  | .lst l, b, h => by cases b <;> first | (unfold beqO at h; rw [beqVs_eq h]; done) | (unfold beqO at h; cases h)
  | .dic l, b, h => by cases b <;> first | (unfold beqO at h; rw [beqP_eq h]; done) | (unfold beqO at h; cases h)
  | .ins c l, b, h => by
    cases b with
    | ins d m =>
      unfold beqO at h
      rw [Bool.and_eq_true, decide_eq_true_eq] at h
      rw [h.1, beqF_eq h.2]
    | _ => unfold beqO at h; cases h
theorem beqO_rfl : ∀ a : MO, beqO a a = true
  | .lst l => by unfold beqO; exact beqVs_rfl l
  | .dic l => by unfold beqO; exact beqP_rfl l
  | .ins c l => by
    show (decide (c = c) && beqF l l) = true
    rw [decide_eq_true (rfl : c = c), beqF_rfl l]
    rfl
section
variable {K : PySem.W.Frag} {H : Hp} {ρ ρ' : List Addr}
mutual
theorem RV.rf : ∀ {d : MV} {v : V}, RV K H ρ d v → rfs ρ.length d = true
  | .non, _, _ => by unfold rfs; rfl
  | .bl _, _, _ => by unfold rfs; rfl
  | .int _, _, _ => by unfold rfs; rfl
  | .str _, _, _ => by unfold rfs; rfl
  | .tup l, v, h => by
    unfold RV at h
    obtain ⟨a, xs, _, _, h3⟩ := h
    unfold rfs
    exact RVs.rf h3
  | .ref i, v, h => by
    unfold RV at h
    obtain ⟨a, h1, _⟩ := h
    unfold rfs
    exact decide_eq_true (List.getElem?_eq_some_iff.mp h1).1
  | .rol l, v, h => by
    unfold RV at h
    obtain ⟨a, xs, _, _, h3⟩ := h
    unfold rfs
    exact RVs.rf h3
theorem RVs.rf : ∀ {ds : List MV} {vs : List V}, RVs K H ρ ds vs → rfsL ρ.length ds = true
  | [], _, _ => by unfold rfsL; rfl
  | d :: ds, xs, h => by
    unfold RVs at h
    obtain ⟨v, vs, _, h2, h3⟩ := h
    unfold rfsL
    rw [RV.rf h2, RVs.rf h3]
    rfl
end
mutual
theorem RV.cut (hp : ρ <+: ρ') : ∀ {d : MV} {v : V}, RV K H ρ' d v → rfs ρ.length d = true → RV K H ρ d v
  | .non, _, h, _ => by unfold RV at h ⊢; exact h
  | .bl _, _, h, _ => by unfold RV at h ⊢; exact h
  | .int _, _, h, _ => by unfold RV at h ⊢; exact h
  | .str _, _, h, _ => by unfold RV at h ⊢; exact h
  | .tup l, v, h, r => by
    unfold RV at h ⊢
    unfold rfs at r
    obtain ⟨a, xs, h1, h2, h3⟩ := h
    exact ⟨a, xs, h1, h2, RVs.cut hp h3 r⟩
  | .ref i, v, h, r => by
    unfold RV at h ⊢
    unfold rfs at r
    obtain ⟨a, h1, h2⟩ := h
    obtain ⟨t, rfl⟩ := hp
    rw [List.getElem?_append_left (of_decide_eq_true r)] at h1
    exact ⟨a, h1, h2⟩
  | .rol l, v, h, r => by
    unfold RV at h ⊢
    unfold rfs at r
    obtain ⟨a, xs, h1, h2, h3⟩ := h
    exact ⟨a, xs, h1, h2, RVs.cut hp h3 r⟩
theorem RVs.cut (hp : ρ <+: ρ') : ∀ {ds : List MV} {vs : List V}, RVs K H ρ' ds vs → rfsL ρ.length ds = true → RVs K H ρ ds vs
  | [], _, h, _ => by unfold RVs at h ⊢; exact h
  | d :: ds, xs, h, r => by
    unfold RVs at h ⊢
    unfold rfsL at r
    rw [Bool.and_eq_true] at r
    obtain ⟨v, vs, h1, h2, h3⟩ := h
    exact ⟨v, vs, h1, RV.cut hp h2 r.1, RVs.cut hp h3 r.2⟩
end
theorem RK.rf : ∀ {l : List (MV × MV)} {ks : List (Key × V)}, RK K H ρ l ks → rfsP ρ.length l = true
  | [], _, _ => rfl
  | (k, d) :: r, ks, h => by
    obtain ⟨k', v, t, h1, h2, h3, h4⟩ := h
    unfold rfsP
    rw [h3.rf, RK.rf h4]
    rfl
theorem RK.cut (hp : ρ <+: ρ') : ∀ {l : List (MV × MV)} {ks : List (Key × V)}, RK K H ρ' l ks → rfsP ρ.length l = true → RK K H ρ l ks
  | [], _, h, _ => h
  | (k, d) :: r, ks, h, q => by
    obtain ⟨k', v, t, h1, h2, h3, h4⟩ := h
    unfold rfsP at q
    rw [Bool.and_eq_true] at q
    exact ⟨k', v, t, h1, h2, h3.cut hp q.1, RK.cut hp h4 q.2⟩
theorem RF.rf : ∀ {l : List (Tx × MV)} {ks : List (Str × V)}, RF K H ρ l ks → rfsF ρ.length l = true
  | [], _, _ => rfl
  | (k, d) :: r, ks, h => by
    obtain ⟨v, t, h1, h3, h4⟩ := h
    unfold rfsF
    rw [h3.rf, RF.rf h4]
    rfl
theorem RF.cut (hp : ρ <+: ρ') : ∀ {l : List (Tx × MV)} {ks : List (Str × V)}, RF K H ρ' l ks → rfsF ρ.length l = true → RF K H ρ l ks
  | [], _, h, _ => h
  | (k, d) :: r, ks, h, q => by
    obtain ⟨v, t, h1, h3, h4⟩ := h
    unfold rfsF at q
    rw [Bool.and_eq_true] at q
    exact ⟨v, t, h1, h3.cut hp q.1, RF.cut hp h4 q.2⟩
end
section
variable {C : Cfg} {ρ ρ' : List Addr} {H H' : Hp} {M M' : Hm}
theorem RO.rf {o : MO} {a : Addr} (h : RO C H ρ o a) : rfsO ρ.length o = true := by
  cases o with
  | lst l => obtain ⟨xs, _, h2⟩ := h; exact h2.rf
  | dic l => obtain ⟨xs, _, h2⟩ := h; exact h2.rf
  | ins c fs => obtain ⟨dx, gs, _, h2⟩ := h; exact h2.rf
theorem RO.cut (hp : ρ <+: ρ') {o : MO} {a : Addr} (h : RO C H ρ' o a) (r : rfsO ρ.length o = true) : RO C H ρ o a := by
  cases o with
  | lst l => obtain ⟨xs, h1, h2⟩ := h; exact ⟨xs, h1, h2.cut hp r⟩
  | dic l => obtain ⟨xs, h1, h2⟩ := h; exact ⟨xs, h1, h2.cut hp r⟩
  | ins c fs => obtain ⟨dx, gs, h1, h2⟩ := h; exact ⟨dx, gs, h1, h2.cut hp r⟩
theorem okH_at {k : Nat} : ∀ {M M' : Hm}, okH k M M' = true → ∀ (i : Nat) (o : MO), M'[i]? = some o → i < M.length → M[i]? = some o ∨ rfsO k o = true
  | [], _, _, i, o, _, hl => absurd hl (Nat.not_lt_zero _)
  | a :: M, [], h, _, _, _, _ => by unfold okH at h; cases h
  | a :: M, b :: M', h, i, o, hi, hl => by
    unfold okH at h
    rw [Bool.and_eq_true, Bool.or_eq_true] at h
    cases i with
    | zero =>
      have hi : some b = some o := hi
      cases hi
      rcases h.1 with q | q
      · left
        show some a = some b
        rw [beqO_eq q]
      · exact .inr q
    | succ i =>
      have := okH_at h.2 i o hi (by simpa using hl)
      exact this
theorem Ext.cut (e : Ext C.K ρ ρ' H H') : Ext C.K ρ ρ H H' := ⟨⟨List.prefix_refl _, e.tup, e.fz⟩, e.fr, fun _ h => .inl h⟩
theorem pre_len (hp : ρ <+: ρ') : ρ.length ≤ ρ'.length := by
  obtain ⟨t, rfl⟩ := hp
  rw [List.length_append]
  omega
theorem pre_ix (hp : ρ <+: ρ') {i : Nat} (hi : i < ρ.length) : ρ'[i]? = ρ[i]? := by
  obtain ⟨t, rfl⟩ := hp
  rw [List.getElem?_append_left hi]
theorem RH.cut (rh : RH C ρ H M) (e : Ext C.K ρ ρ' H H') (rh' : RH C ρ' H' M') (h : okH M.length M M' = true) : RH C ρ H' (M'.take M.length) := by
  have hl := pre_len e.pre
  refine ⟨?_, rh.nd, fun i o hi => ?_⟩
  · rw [List.length_take, rh.len, ← rh'.len]
    have := rh.len
    omega
  · rw [List.getElem?_take] at hi
    split at hi
    · rename_i hik
      obtain ⟨a, ha, ro⟩ := rh'.ob i o hi
      rw [pre_ix e.pre (by rw [rh.len]; exact hik)] at ha
      refine ⟨a, ha, ro.cut e.pre ?_⟩
      rcases okH_at h i o hi hik with q | q
      · obtain ⟨b, _, r⟩ := rh.ob i o q
        exact r.rf
      · rw [rh.len]; exact q
    · cases hi
theorem gc_post {r : R MV} {Q : V → Hp → Prop} {E : MX → List Addr → Hp → Prop} (hE : ∀ x ρ1 ρ2 H2, (∀ cls dd, RX C H2 ρ2 x cls dd → RX C H2 ρ1 x cls dd) → E x ρ1 H2 → E x ρ2 H2) (rh : RH C ρ H M)
    (p : Post C ρ H (gcR M r) (fun z _ ρ' H' => ∀ v, RV C.K H' ρ' z v → Q v H') (fun x _ ρ' H' => E x ρ' H')) :
    Post C ρ H r (fun z _ ρ' H' => ∀ v, RV C.K H' ρ' z v → Q v H') (fun x _ ρ' H' => E x ρ' H') := by
  cases r with
  | bad => exact p
  | ok d M' =>
    intro ρ' H' e rh' v rv
    have p : ∀ ρ' H', Ext C.K ρ ρ' H H' → RH C ρ' H' (gcV M M' d).2 → ∀ v, RV C.K H' ρ' (gcV M M' d).1 v → Q v H' := p
    unfold gcV at p
    split at p
    · rename_i hok
      have rc := rh.cut e rh' hok
      split at p
      · rename_i hd
        rw [← rh.len] at hd
        exact p ρ H' e.cut rc v (rv.cut e.pre hd)
      · cases d with
        | ref j =>
          simp only at p
          cases hj : M'[j]? with
          | none => rw [hj] at p; exact p ρ' H' e rh' v rv
          | some o =>
            rw [hj] at p
            simp only at p
            split at p
            · rename_i hc
              rw [Bool.and_eq_true, decide_eq_true_eq] at hc
              obtain ⟨a, ha, ro⟩ := rh'.ob j o hj
              have hna : a ∉ ρ := fun hm => by
                obtain ⟨i, hi⟩ := List.mem_iff_getElem?.mp hm
                have hil := (List.getElem?_eq_some_iff.mp hi).1
                have hi' : ρ'[i]? = some a := by rw [pre_ix e.pre hil]; exact hi
                have := RH.set.nodup_ixA rh'.nd hi' ha
                have := rh.len
                omega
              have e2 : Ext C.K ρ (ρ ++ [a]) H H' := by
                refine ⟨⟨List.prefix_append _ _, e.tup, e.fz⟩, e.fr, fun b hb => ?_⟩
                rcases List.mem_append.mp hb with q | q
                · exact .inl q
                · have : b = a := by simpa using q
                  subst this
                  exact e.nw b (List.mem_of_getElem? ha)
              have hpre : ρ <+: ρ ++ [a] := List.prefix_append _ _
              have mo : Mo C.K ρ (ρ ++ [a]) H' H' := ⟨hpre, fun _ _ q => q, fun _ _ q => q⟩
              have rh2 : RH C (ρ ++ [a]) H' (M'.take M.length ++ [o]) := by
                refine ⟨by rw [List.length_append, List.length_append, rc.len]; rfl, ?_, fun i ob hi => ?_⟩
                · rw [List.nodup_append]
                  refine ⟨rh.nd, by simp, fun x hx y hy q => ?_⟩
                  have : y = a := by simpa using hy
                  subst this
                  subst q
                  exact hna hx
                · by_cases hl : i < (M'.take M.length).length
                  · rw [List.getElem?_append_left hl] at hi
                    obtain ⟨b, hb, r⟩ := rc.ob i ob hi
                    exact ⟨b, by rw [List.getElem?_append_left (List.getElem?_eq_some_iff.mp hb).1]; exact hb, r.mo mo rfl⟩
                  · have hl2 := Nat.le_of_not_lt hl
                    rw [List.getElem?_append_right hl2] at hi
                    have h0 : i - (M'.take M.length).length = 0 := by
                      have := (List.getElem?_eq_some_iff.mp hi).1
                      simp only [List.length_cons, List.length_nil] at this
                      omega
                    rw [h0] at hi
                    cases hi
                    refine ⟨a, ?_, ?_⟩
                    · rw [List.getElem?_append_right (by rw [rc.len]; exact hl2), rc.len, h0]
                      rfl
                    · exact (ro.cut e.pre (by rw [rh.len]; exact hc.2)).mo mo rfl
              refine p (ρ ++ [a]) H' e2 rh2 v ?_
              unfold RV at rv ⊢
              obtain ⟨b, hb, rfl⟩ := rv
              rw [ha] at hb
              cases hb
              refine ⟨a, ?_, rfl⟩
              rw [← rh.len, List.getElem?_append_right (Nat.le_refl _), Nat.sub_self]
              rfl
            · exact p ρ' H' e rh' v rv
        | _ => exact p ρ' H' e rh' v rv
    · exact p ρ' H' e rh' v rv
  | exc x M' =>
    intro ρ' H' e rh'
    have p : ∀ ρ' H', Ext C.K ρ ρ' H H' → RH C ρ' H' (gcX M M' x) → E x ρ' H' := p
    unfold gcX at p
    split at p
    · rename_i hok
      have rc := rh.cut e rh' hok
      split at p
      · rename_i hx
        refine hE x ρ ρ' H' (fun cls dd q => ?_) (p ρ H' e.cut rc)
        unfold RX at q ⊢
        rw [hx] at q ⊢
        refine ⟨q.1, ?_⟩
        have q2 := q.2
        cases dd with
        | none => exact q2
        | some a => exact q2
      · rename_i fs hx
        split at p
        · rename_i hf
          rw [← rh.len] at hf
          refine hE x ρ ρ' H' (fun cls dd q => ?_) (p ρ H' e.cut rc)
          unfold RX at q ⊢
          rw [hx] at q ⊢
          refine ⟨q.1, ?_⟩
          have q2 := q.2
          cases dd with
          | none => exact q2
          | some a =>
            obtain ⟨gs, q3, q4⟩ := q2
            exact ⟨gs, q3, q4.cut e.pre hf⟩
        · exact p ρ' H' e rh'
    · exact p ρ' H' e rh'
theorem gc_postW {r : R MV} {Q : V → Hp → Prop} {W : Value → Option Addr → Hp → Prop} (rh : RH C ρ H M)
    (p : Post C ρ H (gcR M r) (fun z _ ρ' H' => ∀ v, RV C.K H' ρ' z v → Q v H') (fun x _ ρ' H' => ∀ cls dd, RX C H' ρ' x cls dd → W cls dd H')) :
    Post C ρ H r (fun z _ ρ' H' => ∀ v, RV C.K H' ρ' z v → Q v H') (fun x _ ρ' H' => ∀ cls dd, RX C H' ρ' x cls dd → W cls dd H') :=
  gc_post (E := fun x ρ' H' => ∀ cls dd, RX C H' ρ' x cls dd → W cls dd H') (fun x ρ1 ρ2 H2 h q cls dd r => q cls dd (h cls dd r)) rh p
theorem m_gc {X : Cx} {W : WX} {e : Expr} {e' : Fe} (h : PE X e (tE C W e')) : PE X e (tE C W (eGc e')) := by
  refine PE.imp h fun σ H Q h => ?_
  obtain ⟨ρ, M, env, rh, re, p⟩ := h
  exact ⟨ρ, M, env, rh, re, gc_postW (W := fun cls dd H' => W cls dd σ H') rh p⟩
end
end Mi
set_option maxRecDepth 100000
/-! Statements, loops, defs. -/
namespace Mi
open PySem PySem.Spec PyProof.Rows L2
def PostS (C : Cfg) (ρ : List Addr) (H : Hp) (r : RS) (D : Ends) (W : WX) : Prop := match r with
  | .ok .nx env M' => ∀ ρ' H' σ', Ext C.K ρ ρ' H H' → RH C ρ' H' M' → RE C.K H' ρ' env σ' → D.nx σ' H'
  | .ok .brk env M' => ∀ ρ' H' σ', Ext C.K ρ ρ' H H' → RH C ρ' H' M' → RE C.K H' ρ' env σ' → D.bk σ' H'
  | .ok .cnt env M' => ∀ ρ' H' σ', Ext C.K ρ ρ' H H' → RH C ρ' H' M' → RE C.K H' ρ' env σ' → D.ct σ' H'
  | .ok (.ret d) _ M' => ∀ ρ' H' v, Ext C.K ρ ρ' H H' → RH C ρ' H' M' → RV C.K H' ρ' d v → D.rt v H'
  | .exc x env M' => ∀ ρ' H' σ' cls dd, Ext C.K ρ ρ' H H' → RH C ρ' H' M' → RE C.K H' ρ' env σ' → RX C H' ρ' x cls dd → W cls dd σ' H'
  | .bad => False
def tS (C : Cfg) (W : WX) (f : Fs) : TS := fun D σ H => ∃ ρ M env, RH C ρ H M ∧ RE C.K H ρ env σ ∧ PostS C ρ H (f env M) D W
section
variable {C : Cfg} {W : WX} {ρ ρ' : List Addr} {H H' : Hp} {r : RS} {D D' : Ends} {env : Env} {σ : L2.St} {M : Hm}
theorem PostS.ext (p : PostS C ρ H r D W) (e : Ext C.K ρ ρ' H H') : PostS C ρ' H' r D W := by
  cases r with
  | ok o env M =>
    cases o with
    | nx => exact fun a b c e2 => p a b c (e.trans e2)
    | brk => exact fun a b c e2 => p a b c (e.trans e2)
    | cnt => exact fun a b c e2 => p a b c (e.trans e2)
    | ret d => exact fun a b c e2 => p a b c (e.trans e2)
  | exc x env M => exact fun a b c d1 d2 e2 => p a b c d1 d2 (e.trans e2)
  | bad => exact p
theorem PostS.st {α : Type} {r : R α} {f : α → Hm → RS} (p : PostS C ρ H (r.st env f) D W) (re : RE C.K H ρ env σ) :
    Post C ρ H r (fun a M' ρ' H' => PostS C ρ' H' (f a M') D W) (fun x _ ρ' H' => ∀ cls dd, RX C H' ρ' x cls dd → W cls dd σ H') := by
  cases r with
  | ok a M =>
    have p' : PostS C ρ H (f a M) D W := p
    exact fun ρ2 H2 e2 _ => p'.ext e2
  | exc x M =>
    have p' : ∀ ρ' H' σ' cls dd, Ext C.K ρ ρ' H H' → RH C ρ' H' M → RE C.K H' ρ' env σ' → RX C H' ρ' x cls dd → W cls dd σ' H' := p
    exact fun ρ2 H2 e2 h2 cls dd => p' ρ2 H2 σ cls dd e2 h2 (re.mono e2)
  | bad => exact p
theorem PostS.nx (p : PostS C ρ H (.ok .nx env M) D W) (h : RH C ρ H M) (re : RE C.K H ρ env σ) : D.nx σ H := p ρ H σ Ext.refl h re
theorem PostS.brk (p : PostS C ρ H (.ok .brk env M) D W) (h : RH C ρ H M) (re : RE C.K H ρ env σ) : D.bk σ H := p ρ H σ Ext.refl h re
theorem PostS.cnt (p : PostS C ρ H (.ok .cnt env M) D W) (h : RH C ρ H M) (re : RE C.K H ρ env σ) : D.ct σ H := p ρ H σ Ext.refl h re
theorem PostS.ret {d : MV} {v : V} (p : PostS C ρ H (.ok (.ret d) env M) D W) (h : RH C ρ H M) (r : RV C.K H ρ d v) : D.rt v H := p ρ H v Ext.refl h r
end

/-! ### targets -/
def tGt (C : Cfg) (vs : List Nat) (f : Ftg) : TG := fun v σ H Q => ∃ ρ M env d G, RH C ρ H M ∧ RE C.K H ρ env σ ∧ RV C.K H ρ d v ∧
  Post C ρ H (f d env M) (fun env' _ ρ' H' => ∀ σ', RE C.K H' ρ' env' σ' → wipe σ' vs = wipe σ vs → Q σ' H') G
def tGs (C : Cfg) (vs : List Nat) (f : Ftgs) : TGs := fun xs σ H Q => ∃ ρ M env ds G, RH C ρ H M ∧ RE C.K H ρ env σ ∧ RVs C.K H ρ ds xs ∧
  Post C ρ H (f ds env M) (fun env' _ ρ' H' => ∀ σ', RE C.K H' ρ' env' σ' → wipe σ' vs = wipe σ vs → Q σ' H') G
theorem wipe_set {σ : L2.St} {i : Nat} {x : Option V} : ∀ {vs : List Nat}, i ∈ vs → wipe (σ.set i x) vs = wipe σ vs
  | v :: vs, h => by
    unfold wipe
    by_cases hm : i ∈ vs
    · rw [wipe_set hm]
    · have e : i = v := by
        rcases List.mem_cons.mp h with e | e
        · exact e
        · exact absurd e hm
      subst e
      have key : ∀ (us : List Nat) (τ : L2.St), i ∉ us → wipe (τ.set i x) us = (wipe τ us).set i x := by
        intro us
        induction us with
        | nil => intro τ _; rfl
        | cons u us ih =>
          intro τ hn
          unfold wipe
          rw [ih τ (fun z => hn (List.mem_cons_of_mem _ z))]
          exact List.set_comm _ _ (fun z => hn (by rw [z]; exact List.mem_cons_self))
      rw [key vs σ hm, List.set_set]
section
variable {X : Cx} {C : Cfg} {W : WX}
theorem mg_name {i : Nat} {x : Str} {vs : List Nat} {pos : Pos} (hN : X.N.Nodup) (hm : i ∈ vs := by first | decide | simp) (hi : X.N[i]? = some x := by rfl) (hx : Loc X.env.scope x := by first | exact Or.inl rfl | exact Or.inr rfl)
    (hf : X.fn x = true ∨ X.env.scope.names.lookup x = some .local := by first | exact .inl rfl | exact .inr rfl | assumption) : PG X (.Name x pos) (tGt C vs (gN i)) := by
  refine PG.imp (pg_name hN hi hx hf) fun v σ H Q h => ?_
  obtain ⟨ρ, M, env, d, G, rh, re, rv, p⟩ := h
  exact p.now rh _ (re.set i rv) (wipe_set hm)
theorem mgs_nil {vs : List Nat} : PGs X [] (tGs C vs gsNil) := by
  refine PGs.imp pgs_nil fun xs σ H Q h => ?_
  obtain ⟨ρ, M, env, ds, G, rh, re, rvs, p⟩ := h
  cases ds with
  | nil =>
    unfold RVs at rvs
    exact ⟨rvs, p.now rh _ re rfl⟩
  | cons d ds => exact p.elim
theorem mgs_cons {vs : List Nat} {e : Expr} {es : List Expr} {g : Ftg} {r : Ftgs} (h1 : PG X e (tGt C vs g)) (h2 : PGs X es (tGs C vs r))
    (hs : (assignEach (e :: es) X.env).map (·.2) = assign e X.env :: (assignEach es X.env).map (·.2) := by rfl) : PGs X (e :: es) (tGs C vs (gsCons g r)) := by
  refine PGs.imp (pgs_cons h1 h2 hs) fun xs σ H Q h => ?_
  obtain ⟨ρ, M, env, ds, G, rh, re, rvs, p⟩ := h
  cases ds with
  | nil => exact p.elim
  | cons d ds =>
    unfold RVs at rvs
    obtain ⟨v, ws, rfl, r1, r2⟩ := rvs
    refine ⟨v, ws, rfl, ρ, M, env, d, G, rh, re, r1, p.bind.imp (fun env1 M1 ρ1 H1 e1 rh1 p2 σ1 re1 hw => ?_) (fun _ _ _ _ _ _ q => q)⟩
    exact ⟨ρ1, M1, env1, ds, G, rh1, re1, r2.mono e1, p2.imp (fun env2 M2 ρ2 H2 e2 rh2 p3 σ2 re2 hw2 => p3 σ2 re2 (hw2.trans hw)) (fun _ _ _ _ _ _ q => q)⟩
theorem mg_tup {vs : List Nat} {es : List Expr} {k : Nat} {r : Ftgs} {n : Nat} {pos : Pos} (hc : X.calm = true) (hC : C.K = X.K) (h : PGs X es (tGs C vs r))
    (hn : (assignEach es X.env).length = n := by rfl) (hst : (assignEach es X.env).findIdx? (·.1) = none := by rfl) : PG X (.Tuple es k pos) (tGt C vs (gT n r)) := by
  refine PG.imp (pg_tup hc h hn hst) fun v σ H Q h => ?_
  obtain ⟨ρ, M, env, d, G, rh, re, rv, p⟩ := h
  cases d with
  | tup l =>
    unfold RV at rv
    obtain ⟨a, xs, rfl, h2, h3⟩ := rv
    by_cases hl : l.length = n
    · simp only [gT, if_pos hl] at p
      exact ⟨a, xs, rfl, by rw [← hC]; exact h2, by rw [h3.len]; exact hl, ρ, M, env, l, G, rh, re, h3, p⟩
    · simp only [gT, if_neg hl] at p
      exact p.elim
  | _ => exact p.elim

/-! ### plain statements -/
theorem ms_nil : PSs X [] (tS C W sNx) := PSs.imp pss_nil fun D σ H h => by
  obtain ⟨ρ, M, env, rh, re, p⟩ := h
  exact p.nx rh re
theorem ms_cons {st : Stmt} {rest : List Stmt} {a b : Fs} (h1 : PS X st (tS C W a)) (h2 : PSs X rest (tS C W b)) : PSs X (st :: rest) (tS C W (sSeq a b)) := by
  refine PSs.imp (pss_cons h1 h2) fun D σ H h => ?_
  obtain ⟨ρ, M, env, rh, re, p⟩ := h
  refine ⟨ρ, M, env, rh, re, ?_⟩
  unfold sSeq at p
  cases e : a env M with
  | bad => rw [e] at p; exact p
  | exc x env1 M1 => rw [e] at p; exact p
  | ok o env1 M1 =>
    rw [e] at p
    cases o with
    | nx =>
      have p' : PostS C ρ H (b env1 M1) D W := p
      exact fun ρ' H' σ' e1 rh1 re1 => ⟨ρ', M1, env1, rh1, re1, p'.ext e1⟩
    | brk => exact p
    | cnt => exact p
    | ret d => exact p
theorem ms_one {st : Stmt} {a : Fs} (h1 : PS X st (tS C W a)) : PSs X [st] (tS C W a) := pss_one h1
theorem m_set {i : Nat} {x : Str} {e : Expr} {e' : Fe} {pos pos' : Pos} (hN : X.N.Nodup) (he : PE X e (tE C W e')) (hi : X.N[i]? = some x := by rfl) (hx : Loc X.env.scope x := by first | exact Or.inl rfl | exact Or.inr rfl)
    (hs : swapsWith e (some (.Name x pos')) pos.line X.env = pure false := by rfl) (hf : X.fn x = true ∨ X.env.scope.names.lookup x = some .local := by first | exact .inl rfl | exact .inr rfl | assumption) : PS X (.Assign [.Name x pos'] e pos) (tS C W (sSet i e')) := by
  refine PS.imp (ps_set hN hi hx he hs hf) fun D σ H h => ?_
  obtain ⟨ρ, M, env, rh, re, p⟩ := h
  exact ⟨ρ, M, env, rh, re, (p.st re).imp (fun d M1 ρ1 H1 e1 rh1 p2 v rv => p2.nx rh1 ((re.mono e1).set i rv)) (fun _ _ _ _ _ _ q => q)⟩
theorem m_asg {tg e : Expr} {e' : Fe} {g : Ftg} {vs : List Nat} {pos : Pos} (he : PE X e (tE C W e')) (hg : PG X tg (tGt C vs g)) (hs : swapsWithSole [tg] e pos.line X.env = pure false := by rfl) (hw : swappedStores [tg] e X.env = pure none := by rfl)
    (h1 : (assignEach [tg] X.env).map (·.2) = [assign tg X.env] := by rfl) : PS X (.Assign [tg] e pos) (tS C W (sAsg g e')) := by
  refine PS.imp (ps_asg he hg hs hw h1) fun D σ H h => ?_
  obtain ⟨ρ, M, env, rh, re, p⟩ := h
  refine ⟨ρ, M, env, rh, re, (p.st re).imp (fun d M1 ρ1 H1 e1 rh1 p2 v rv => ?_) (fun _ _ _ _ _ _ q => q)⟩
  exact ⟨ρ1, M1, env, d, _, rh1, re.mono e1, rv, (p2.st (re.mono e1)).imp (fun env2 M2 ρ2 H2 e2 rh2 p3 σ' re' _ => p3.nx rh2 re') (fun _ _ _ _ _ _ q => q)⟩
theorem m_ex {e : Expr} {e' : Fe} {pos : Pos} (he : PE X e (tE C W e')) (hs : swapsWith e none pos.line X.env = pure false := by rfl) : PS X (.Expr e pos) (tS C W (sEx e')) := by
  refine PS.imp (ps_expr he hs) fun D σ H h => ?_
  obtain ⟨ρ, M, env, rh, re, p⟩ := h
  exact ⟨ρ, M, env, rh, re, (p.st re).imp (fun d M1 ρ1 H1 e1 rh1 p2 v rv => p2.nx rh1 (re.mono e1)) (fun _ _ _ _ _ _ q => q)⟩
theorem m_ret {e : Expr} {e' : Fe} {pos : Pos} (he : PE X e (tE C W e')) : PS X (.Return (some e) pos) (tS C W (sRet e')) := by
  refine PS.imp (ps_ret he) fun D σ H h => ?_
  obtain ⟨ρ, M, env, rh, re, p⟩ := h
  exact ⟨ρ, M, env, rh, re, (p.st re).imp (fun d M1 ρ1 H1 e1 rh1 p2 v rv => p2.ret rh1 rv) (fun _ _ _ _ _ _ q => q)⟩
theorem m_retN {pos : Pos} : PS X (.Return none pos) (tS C W sRetN) := PS.imp ps_retN fun D σ H h => by
  obtain ⟨ρ, M, env, rh, re, p⟩ := h
  exact p.ret rh (by unfold RV; rfl)
theorem m_pass {pos : Pos} : PS X (.Pass pos) (tS C W sNx) := PS.imp ps_pass fun D σ H h => by
  obtain ⟨ρ, M, env, rh, re, p⟩ := h
  exact p.nx rh re
theorem m_break {pos : Pos} : PS X (.Break pos) (tS C W sBrk) := PS.imp ps_break fun D σ H h => by
  obtain ⟨ρ, M, env, rh, re, p⟩ := h
  exact p.brk rh re
theorem m_continue {pos : Pos} : PS X (.Continue pos) (tS C W sCnt) := PS.imp ps_continue fun D σ H h => by
  obtain ⟨ρ, M, env, rh, re, p⟩ := h
  exact p.cnt rh re
theorem m_if {c : Expr} {a b : List Stmt} {c' : Ft} {a' b' : Fs} {pos : Pos} (hc : PT X c (tT C W c')) (ha : PSs X a (tS C W a')) (hb : PSs X b (tS C W b')) : PS X (.If c a b pos) (tS C W (sIf c' a' b')) := by
  refine PS.imp (ps_if hc ha hb) fun D σ H h => ?_
  obtain ⟨ρ, M, env, rh, re, p⟩ := h
  refine ⟨ρ, M, env, rh, re, (p.st re).imp (fun k M1 ρ1 H1 e1 rh1 p2 v rv => ?_) (fun _ _ _ _ _ _ q => q)⟩
  subst rv
  cases v with
  | true => exact ⟨ρ1, M1, env, rh1, re.mono e1, p2⟩
  | false => exact ⟨ρ1, M1, env, rh1, re.mono e1, p2⟩
theorem m_aug {op : Operator} {r : R2} {f : MV → MV → Hm → R MV} {i : Nat} {x : Str} {e : Expr} {e' : Fe} {pos pos' : Pos} (hN : X.N.Nodup) (ho : OpR X (inplaceOp op) r) (hs : Sim2 C f r) (he : PE X e (tE C W e')) (hi : X.N[i]? = some x := by rfl)
    (hx : Loc X.env.scope x := by first | exact Or.inl rfl | exact Or.inr rfl) (hf : X.fn x = true ∨ X.env.scope.names.lookup x = some .local := by first | exact .inl rfl | exact .inr rfl | assumption) : PS X (.AugAssign (.Name x pos') op e pos) (tS C W (sAug f i e')) := by
  have hp : PIp X op r := fun pins s σ H x y v u Q I rx ry h => ho pins s σ H x y v u Q I rx ry h
  refine PS.imp (ps_aug hN hi hx he hp hf) fun D σ H h => ?_
  obtain ⟨ρ, M, env, rh, re, p⟩ := h
  unfold sAug at p
  split at p
  · rename_i d e0
    obtain ⟨v, e1, rd⟩ := re.at_ i d e0
    refine ⟨v, e1, ρ, M, env, rh, re, (p.st re).imp (fun d2 M1 ρ1 H1 e1 rh1 p2 w rw => ?_) (fun _ _ _ _ _ _ q => q)⟩
    exact hs ρ1 H1 M1 d d2 v w _ _ rh1 (rd.mono e1) rw ((p2.st (re.mono e1)).imp (fun z M2 ρ2 H2 e2 rh2 p3 u ru => p3.nx rh2 (((re.mono e1).mono e2).set i ru)) (fun _ _ _ _ _ _ q => q))
  · exact p.elim

/-! ### while -/
theorem m_while {c : Expr} {body : List Stmt} {c' : Ft} {b' : Fs} {pos : Pos} (hp : PassesOwn (model X.prog X.w) X.A X.env X.xe) (hc : PT X c (tT C W c')) (hb : PSs X body (tS C W b')) : PS X (.While c body [] pos) (tS C W (sWhl c' b')) := by
  refine PS.imp (ps_while hp hc hb) fun D σ H h => ?_
  obtain ⟨ρ, M, env, rh, re, p⟩ := h
  refine ⟨fun m σ H => ∃ ρ M env, RH C ρ H M ∧ RE C.K H ρ env σ ∧ PostS C ρ H (whlGo c' b' m env M) D W, ⟨WL, ρ, M, env, rh, re, p⟩, fun m σ H h => ?_⟩
  obtain ⟨ρ, M, env, rh, re, p⟩ := h
  cases m with
  | zero => exact p.elim
  | succ n =>
    refine ⟨ρ, M, env, rh, re, (p.st re).imp (fun k M1 ρ1 H1 e1 rh1 p2 v rv => ?_) (fun _ _ _ _ _ _ q => q)⟩
    subst rv
    cases v with
    | false => exact p2.nx rh1 (re.mono e1)
    | true =>
      have p2 : PostS C ρ1 H1 (match b' env M1 with
        | .ok .nx env2 M2 => whlGo c' b' n env2 M2
        | .ok .cnt env2 M2 => whlGo c' b' n env2 M2
        | .ok .brk env2 M2 => .ok .nx env2 M2
        | r => r) D W := p2
      refine ⟨fun σ H => ∃ ρ M env, RH C ρ H M ∧ RE C.K H ρ env σ ∧ PostS C ρ H (whlGo c' b' n env M) D W, fun σ' H' h => ⟨n, Nat.lt_succ_self n, h⟩, ρ1, M1, env, rh1, re.mono e1, ?_⟩
      cases e : b' env M1 with
      | bad => rw [e] at p2; exact p2
      | exc x env2 M2 => rw [e] at p2; exact p2
      | ok o env2 M2 =>
        rw [e] at p2
        cases o with
        | nx =>
          have p' : PostS C ρ1 H1 (whlGo c' b' n env2 M2) D W := p2
          exact fun ρ' H' σ' e1 rh1 re1 => ⟨ρ', M2, env2, rh1, re1, p'.ext e1⟩
        | cnt =>
          have p' : PostS C ρ1 H1 (whlGo c' b' n env2 M2) D W := p2
          exact fun ρ' H' σ' e1 rh1 re1 => ⟨ρ', M2, env2, rh1, re1, p'.ext e1⟩
        | brk => exact p2
        | ret d => exact p2

/-! ### for -/
/-- an iterator of the layer, and what comes by the small language -/
structure ItOk (C : Cfg) (H0 : Hp) (ρ0 : List Addr) (ni : Ni) (J : It) : Prop where
  stop : ∀ ρ H M k, Mo C.K ρ0 ρ H0 H → RH C ρ H M → ni M k = some none → J.stop k H
  go : ∀ ρ H M k x, Mo C.K ρ0 ρ H0 H → RH C ρ H M → ni M k = some (some x) → J.go k H
  yld : ∀ ρ H M k x v H', Mo C.K ρ0 ρ H0 H → RH C ρ H M → ni M k = some (some x) → J.yld k H v H' → Ext C.K ρ ρ H H' ∧ RH C ρ H' M ∧ RV C.K H' ρ x v
abbrev tIt (C : Cfg) (W : WX) (f : Fi) : TI := tG C W (fun H ρ p J => ItOk C H ρ p.1 J) f
theorem m_for {tg iter : Expr} {body : List Stmt} {it : Fi} {g : Ftg} {vs : List Nat} {b' : Fs} {pos : Pos} (hp : PassesOwn (model X.prog X.w) X.A X.env X.xe) (hc : X.calm = true) (hi : PI X tg iter (tIt C W it)) (hg : PG X tg (tGt C vs g)) (hb : PSs X body (tS C W b'))
    (hs : ∀ x, foldedSetIterable iter X.env x = pure x := by intro _; rfl) : PS X (.For tg iter body [] pos) (tS C W (sFor it g b')) := by
  refine PS.imp (ps_for hp hc hi hg hb hs) fun D σ H h => ?_
  obtain ⟨ρ, M, env, rh, re, p⟩ := h
  refine ⟨ρ, M, env, rh, re, (p.st re).imp (fun ni M1 ρ1 H1 e1 rh1 p2 J ok => ?_) (fun _ _ _ _ _ _ q => q)⟩
  obtain ⟨ni, n0⟩ := ni
  refine ⟨fun i m σ H => ∃ ρ M env, Ext C.K ρ1 ρ H1 H ∧ RH C ρ H M ∧ RE C.K H ρ env σ ∧ PostS C ρ H (forGo ni g b' m i env M) D W, ⟨n0, ρ1, M1, env, Ext.refl, rh1, re.mono e1, p2⟩, fun i m σ H h => ?_⟩
  obtain ⟨ρ, M, env, ex, rh, re, p⟩ := h
  cases m with
  | zero => exact p.elim
  | succ n =>
    unfold forGo at p
    cases hn : ni M i with
    | none => rw [hn] at p; exact p.elim
    | some o =>
      cases o with
      | none =>
        rw [hn] at p
        exact .inl ⟨ok.stop ρ H M i ex.toMo rh hn, p.nx rh re⟩
      | some x =>
        rw [hn] at p
        have p : PostS C ρ H ((g x env M).st env fun env1 M1 => match b' env1 M1 with
          | .ok .nx env2 M2 => forGo ni g b' n (i + 1) env2 M2
          | .ok .cnt env2 M2 => forGo ni g b' n (i + 1) env2 M2
          | .ok .brk env2 M2 => .ok .nx env2 M2
          | r => r) D W := p
        refine .inr ⟨ok.go ρ H M i x ex.toMo rh hn, fun σ H => ∃ ρ M env, Ext C.K ρ1 ρ H1 H ∧ RH C ρ H M ∧ RE C.K H ρ env σ ∧ PostS C ρ H (forGo ni g b' n (i + 1) env M) D W, fun σ' H' h => ⟨n, Nat.lt_succ_self n, h⟩, fun v H' hy => ?_⟩
        obtain ⟨e2, rh2, rv⟩ := ok.yld ρ H M i x v H' ex.toMo rh hn hy
        have re2 := re.mono e2
        refine ⟨ρ, M, env, x, _, rh2, re2, rv, ((p.ext e2).st re2).imp (fun env1 M2 ρ2 H2 e3 rh3 p3 σ1 re3 _ => ?_) (fun _ _ _ _ _ _ q => q)⟩
        have ex2 := (ex.trans e2).trans e3
        refine ⟨ρ2, M2, env1, rh3, re3, ?_⟩
        cases e : b' env1 M2 with
        | bad => rw [e] at p3; exact p3
        | exc x env2 M3 => rw [e] at p3; exact p3
        | ok o env2 M3 =>
          rw [e] at p3
          cases o with
          | nx =>
            have p' : PostS C ρ2 H2 (forGo ni g b' n (i + 1) env2 M3) D W := p3
            exact fun ρ' H' σ' e1 rh1 re1 => ⟨ρ', M3, env2, ex2.trans e1, rh1, re1, p'.ext e1⟩
          | cnt =>
            have p' : PostS C ρ2 H2 (forGo ni g b' n (i + 1) env2 M3) D W := p3
            exact fun ρ' H' σ' e1 rh1 re1 => ⟨ρ', M3, env2, ex2.trans e1, rh1, re1, p'.ext e1⟩
          | brk => exact p3
          | ret d => exact p3

/-! ### what is walked -/
theorem itok_list {i : Nat} {a : Addr} {ρ : List Addr} {H : Hp} (ha : ρ[i]? = some a) : ItOk C H ρ (nL i) (Itl C.K a) := by
  have at_ : ∀ {ρ2 : List Addr} {H2 : Hp} {M : Hm} {k : Nat} {o : Option MV}, Mo C.K ρ ρ2 H H2 → RH C ρ2 H2 M → nL i M k = some o → ∃ l xs, M[i]? = some (.lst l) ∧ o = l[k]? ∧ H2 a = some (.lst xs) ∧ RVs C.K H2 ρ2 l xs := fun {ρ2 H2 M k o} e rh q => by
    unfold nL at q
    split at q
    · rename_i l hm
      obtain ⟨xs, h1, h2⟩ := rh.at hm (e.ix ha)
      exact ⟨l, xs, hm, (Option.some.inj q).symm, h1, h2⟩
    · cases q
  refine ⟨fun ρ2 H2 M k e rh q => ?_, fun ρ2 H2 M k x e rh q => ?_, fun ρ2 H2 M k x v H' e rh q y => ?_⟩
  · obtain ⟨l, xs, hm, hk, h1, h2⟩ := at_ e rh q
    refine ⟨xs, SqL.of h1, ?_⟩
    have := List.getElem?_eq_none_iff.mp hk.symm
    rw [h2.len]
    exact this
  · obtain ⟨l, xs, hm, hk, h1, h2⟩ := at_ e rh q
    obtain ⟨v, e1, _⟩ := h2.get hk.symm
    exact ⟨xs, v, SqL.of h1, e1⟩
  · obtain ⟨l, xs, hm, hk, h1, h2⟩ := at_ e rh q
    obtain ⟨w, e1, r⟩ := h2.get hk.symm
    obtain ⟨rfl, y2⟩ := y
    have e2 := y2 xs (SqL.of h1)
    rw [e1] at e2
    cases e2
    exact ⟨Ext.refl, rh, r⟩
theorem itok_rol {l : List MV} {xs : List V} {a : Addr} {ρ : List Addr} {H : Hp} (hs : FzL C.K H a xs) (hr : RVs C.K H ρ l xs) : ItOk C H ρ (nT l) (Itl C.K a) := by
  refine ⟨fun ρ2 H2 M k e rh q => ?_, fun ρ2 H2 M k x e rh q => ?_, fun ρ2 H2 M k x v H' e rh q y => ?_⟩
  · refine ⟨xs, (e.fz _ _ hs).sq, ?_⟩
    have := List.getElem?_eq_none_iff.mp (Option.some.inj q)
    rw [hr.len]
    exact this
  · obtain ⟨v, e1, _⟩ := hr.get (Option.some.inj q)
    exact ⟨xs, v, (e.fz _ _ hs).sq, e1⟩
  · obtain ⟨w, e1, r⟩ := hr.get (Option.some.inj q)
    obtain ⟨rfl, y2⟩ := y
    have e2 := y2 xs (e.fz _ _ hs).sq
    rw [e1] at e2
    cases e2
    exact ⟨Ext.refl, rh, r.mo e⟩
theorem itok_tup {l : List MV} {xs : List V} {a : Addr} {ρ : List Addr} {H : Hp} (hs : SqT C.K H a xs) (hr : RVs C.K H ρ l xs) : ItOk C H ρ (nT l) (Itt C.K a) := by
  refine ⟨fun ρ2 H2 M k e rh q => ?_, fun ρ2 H2 M k x e rh q => ?_, fun ρ2 H2 M k x v H' e rh q y => ?_⟩
  · refine ⟨xs, e.tup _ _ hs, ?_⟩
    have := List.getElem?_eq_none_iff.mp (Option.some.inj q)
    rw [hr.len]
    exact this
  · obtain ⟨v, e1, _⟩ := hr.get (Option.some.inj q)
    exact ⟨xs, v, e.tup _ _ hs, e1⟩
  · obtain ⟨w, e1, r⟩ := hr.get (Option.some.inj q)
    obtain ⟨rfl, y2⟩ := y
    have e2 := y2 xs (e.tup _ _ hs)
    rw [e1] at e2
    cases e2
    exact ⟨Ext.refl, rh, r.mo e⟩
theorem mi_list {tg l : Expr} {l' : Fe} (hC : C.K = X.K) (hl : PE X l (tE C W l')) : PI X tg l (tIt C W (iL l')) := by
  refine PI.imp (pi_list hl) fun σ H Q h => ?_
  obtain ⟨ρ, M, env, rh, re, p⟩ := h
  refine ⟨ρ, M, env, rh, re, p.bind.imp (fun d M1 ρ1 H1 e1 rh1 p2 v rv => ?_) (fun _ _ _ _ _ _ q => q)⟩
  cases d with
  | ref i =>
    unfold RV at rv
    obtain ⟨a, h1, rfl⟩ := rv
    cases hm : M1[i]? with
    | none => simp only [hm] at p2; exact p2.elim
    | some o =>
      cases o with
      | lst l =>
        simp only [hm] at p2
        obtain ⟨xs, q1, q2⟩ := rh1.at hm h1
        exact ⟨a, rfl, ⟨xs, SqL.of q1⟩, p2.now rh1 _ (by rw [← hC]; exact itok_list h1)⟩
      | dic l => simp only [hm] at p2; exact p2.elim
      | ins c fs => simp only [hm] at p2; exact p2.elim
  | rol l =>
    unfold RV at rv
    obtain ⟨a, xs, rfl, h2, h3⟩ := rv
    exact ⟨a, rfl, ⟨xs, by rw [← hC]; exact h2.sq⟩, p2.now rh1 _ (by rw [← hC]; exact itok_rol h2 h3)⟩
  | _ => exact p2.elim
theorem mi_tup {tg l : Expr} {l' : Fe} (hC : C.K = X.K) (hl : PE X l (tE C W l')) : PI X tg l (tIt C W (iT l')) := by
  refine PI.imp (pi_tup hl) fun σ H Q h => ?_
  obtain ⟨ρ, M, env, rh, re, p⟩ := h
  refine ⟨ρ, M, env, rh, re, p.bind.imp (fun d M1 ρ1 H1 e1 rh1 p2 v rv => ?_) (fun _ _ _ _ _ _ q => q)⟩
  cases d with
  | tup l =>
    unfold RV at rv
    obtain ⟨a, xs, rfl, h2, h3⟩ := rv
    exact ⟨a, rfl, ⟨xs, by rw [← hC]; exact h2⟩, p2.now rh1 _ (by rw [← hC]; exact itok_tup h2 h3)⟩
  | _ => exact p2.elim

/-! ### list comprehensions -/
theorem mts_nil : PTs X [] (tT C W cYes) := ⟨fun pins s σ H Q I h => by
  obtain ⟨ρ, M, env, rh, re, p⟩ := h
  exact wpAny_tests_nil ⟨H, I, p.now rh true rfl⟩⟩
theorem mts_one {c : Expr} {c' : Ft} (h : PT X c (tT C W c')) : PTs X [c] (tT C W c') := pts_one h
abbrev W0 : WX := fun _ _ _ _ => False
/-- without what stands at D -/
def er (H : Hp) (D : Addr) : Hp := fun b => if b = D then none else H b
theorem er_self {H : Hp} {D : Addr} : er H D D = none := if_pos rfl
theorem er_ne {H : Hp} {D b : Addr} (h : b ≠ D) : er H D b = H b := if_neg h
theorem er_back {H : Hp} {D : Addr} {u : HO} (h : H D = some u) : upd (er H D) D u = H := by
  funext b
  by_cases e : b = D
  · subst e; rw [upd_same, h]
  · rw [upd_ne e, er_ne e]
theorem er_upd {H : Hp} {D : Addr} {u : HO} : er (upd H D u) D = er H D := by
  funext b
  by_cases e : b = D
  · subst e; rw [er_self, er_self]
  · rw [er_ne e, er_ne e, upd_ne e]
theorem er_free {H : Hp} {D : Addr} (h : H D = none) : er H D = H := by
  funext b
  by_cases e : b = D
  · subst e; rw [er_self, h]
  · rw [er_ne e]
section
variable {ρ ρ' : List Addr} {H H' : Hp} {M : Hm} {D : Addr} {u : HO}
theorem SqT.of_er {K : PySem.W.Frag} {a : Addr} {xs : List V} (h : SqT K (er H D) a xs) : SqT K H a xs := by
  have rd : ∀ w, er H D a = some w → H a = some w := fun w q => by
    by_cases e : a = D
    · rw [e, er_self] at q; cases q
    · rw [er_ne e] at q; exact q
  rcases h with (h | ⟨o, h⟩) | h
  · exact .inl (.inl (rd _ h))
  · exact .inl (.inr ⟨o, rd _ h⟩)
  · exact .inr h
theorem SqT.er {K : PySem.W.Frag} {a : Addr} {xs : List V} (hm : Mut (some u)) (hD : H D = some u) (h : SqT K H a xs) : SqT K (er H D) a xs := by
  have rd : ∀ w, ¬ Mut (some w) → H a = some w → Mi.er H D a = some w := fun w nm q => by
    rw [er_ne (fun e => by rw [e, hD] at q; cases q; exact nm hm)]
    exact q
  rcases h with (h | ⟨o, h⟩) | h
  · exact .inl (.inl (rd _ (fun z => z) h))
  · exact .inl (.inr ⟨o, rd _ (fun z => z) h⟩)
  · exact .inr h
theorem FzL.of_er {K : PySem.W.Frag} {a : Addr} {xs : List V} (h : FzL K (er H D) a xs) : FzL K H a xs := by
  rcases h with ⟨o, h⟩ | h
  · refine .inl ⟨o, ?_⟩
    by_cases e : a = D
    · rw [e, er_self] at h; cases h
    · rw [er_ne e] at h; exact h
  · exact .inr h
theorem FzL.er {K : PySem.W.Frag} {a : Addr} {xs : List V} (hm : Mut (some u)) (hD : H D = some u) (h : FzL K H a xs) : FzL K (er H D) a xs := by
  rcases h with ⟨o, h⟩ | h
  · refine .inl ⟨o, ?_⟩
    rw [er_ne (fun e => by rw [e, hD] at h; cases h; exact hm)]
    exact h
  · exact .inr h
theorem Ext.er {K : PySem.W.Frag} (e : Ext K ρ ρ' H H') (hm : Mut (some u)) (hD : H D = some u) (nD : D ∉ ρ) : Ext K ρ ρ' (er H D) (er H' D) ∧ H' D = some u ∧ D ∉ ρ' := by
  have hD' := e.fr D u hD nD
  have nD' : D ∉ ρ' := fun q => by
    rcases e.nw D q with q | q
    · exact nD q
    · rw [hD] at q; cases q
  refine ⟨⟨⟨e.pre, fun a xs q => SqT.er hm hD' (e.tup a xs (SqT.of_er q)), fun a xs q => FzL.er hm hD' (e.fz a xs (FzL.of_er q))⟩, fun a o q hn => ?_, fun a q => ?_⟩, hD', nD'⟩
  · by_cases z : a = D
    · rw [z, er_self] at q; cases q
    · rw [er_ne z] at q ⊢
      exact e.fr a o q hn
  · rcases e.nw a q with q | q
    · exact .inl q
    · refine .inr ?_
      by_cases z : a = D
      · rw [z, er_self]
      · rw [er_ne z]; exact q
theorem RE.er {env : Env} {σ : L2.St} {K : PySem.W.Frag} (hm : Mut (some u)) (hD : H D = some u) (e : Ext K ρ ρ (er H D) H) (h : RE K (er H D) ρ env σ) : RE K H ρ env σ := h.mono e
theorem Ext.ofEr {K : PySem.W.Frag} (hD : H D = some u) : Ext K ρ ρ (Mi.er H D) H := by
  have q := Ext.new (C := ⟨K, fun _ => 0⟩) (ρ := ρ) (H := Mi.er H D) (a := D) (o := u) er_self
  rw [er_back hD] at q
  exact q
theorem RH.er (h : RH C ρ H M) (nD : D ∉ ρ) (hm : Mut (some u)) (hD : H D = some u) : RH C ρ (Mi.er H D) M := by
  have m : Mo C.K ρ ρ H (Mi.er H D) := ⟨List.prefix_refl _, fun a xs q => SqT.er hm hD q, fun a xs q => FzL.er hm hD q⟩
  refine ⟨h.len, h.nd, fun i o hi => ?_⟩
  obtain ⟨a, ha, r⟩ := h.ob i o hi
  have ne : a ≠ D := fun e => nD (by rw [← e]; exact List.mem_of_getElem? ha)
  exact ⟨a, ha, r.mo m (er_ne ne)⟩
theorem Post.er {α : Type} {r : R α} {F : α → Hm → List Addr → Hp → Prop} {G : MX → Hm → List Addr → Hp → Prop} (hm : Mut (some u)) (hD : H D = some u) (nD : D ∉ ρ) (p : Post C ρ (Mi.er H D) r F G) :
    Post C ρ H r (fun a M' ρ' H' => H' D = some u ∧ D ∉ ρ' ∧ F a M' ρ' (Mi.er H' D)) (fun x M' ρ' H' => G x M' ρ' (Mi.er H' D)) := by
  cases r with
  | ok a M' =>
    intro ρ' H' e rh
    obtain ⟨e', h1, h2⟩ := e.er hm hD nD
    exact ⟨h1, h2, p ρ' _ e' (rh.er h2 hm h1)⟩
  | exc x M' =>
    intro ρ' H' e rh
    obtain ⟨e', h1, h2⟩ := e.er hm hD nD
    exact p ρ' _ e' (rh.er h2 hm h1)
  | bad => exact p
end
theorem wipe_wipe (σ : L2.St) : ∀ vs : List Nat, wipe (wipe σ vs) vs = wipe σ vs := by
  have key : ∀ (us vs : List Nat), (∀ i ∈ us, i ∈ vs) → ∀ τ : L2.St, wipe (wipe τ us) vs = wipe τ vs := by
    intro us
    induction us with
    | nil => intro vs _ τ; rfl
    | cons u us ih =>
      intro vs h τ
      show wipe ((wipe τ us).set u none) vs = wipe τ vs
      rw [wipe_set (h u List.mem_cons_self)]
      exact ih vs (fun i hi => h i (List.mem_cons_of_mem _ hi)) τ
  exact fun vs => key vs vs (fun _ h => h) σ
theorem upd_er {H : Hp} {D : Addr} {u : HO} : upd (er H D) D u = upd H D u := by
  funext b
  by_cases e : b = D
  · subst e; rw [upd_same, upd_same]
  · rw [upd_ne e, upd_ne e, er_ne e]
theorem lc_read {Q : VK} {σ : L2.St} {H : Hp} {it : Fi} {g : Ftg} {c' : Ft} {e' : Fe} {vs : List Nat} (h : tE C W (eLc it g c' e' vs) σ H Q) : tLc (tIt C W it) (tGt C vs g) (tT C W0 c') (tE C W0 e') vs σ H Q := by
  obtain ⟨ρ, M, env, rh, re, p⟩ := h
  refine ⟨ρ, M, env, rh, re, p.bind.imp (fun pn M1 ρ1 H1 e1 rh1 p2 J ok => ?_) (fun _ _ _ _ _ _ q => q)⟩
  obtain ⟨ni, n0⟩ := pn
  intro D hD
  have re1 : RE C.K H1 ρ1 (wipeE env vs) (wipe σ vs) := (re.mono e1).wipe vs
  refine ⟨fun i m H => ∃ ρ M acc ys, Ext C.K ρ1 ρ H1 (er H D) ∧ RH C ρ H M ∧ D ∉ ρ ∧ H D = some (.lst ys) ∧ RVs C.K H ρ acc ys ∧
      Post C ρ (er H D) ((lcGo ni g c' e' (wipeE env vs) m i acc M).bind fun l M2 => .ok (.ref M2.length) (M2 ++ [.lst l])) (fun d _ ρ' H' => ∀ v, RV C.K H' ρ' d v → Q v H') (fun x _ ρ' H' => ∀ cls dd, RX C H' ρ' x cls dd → W cls dd σ H'),
    ⟨n0, ρ1, M1, [], [], ?_, rh1.beside hD, rh1.fresh hD, upd_same, RVs.nil, ?_⟩, fun i m H h => ?_⟩
  · rw [er_upd, er_free hD]; exact Ext.refl
  · rw [er_upd, er_free hD]; exact p2
  obtain ⟨ρ, M, acc, ys, ex, rh, nD, hD2, ra, p⟩ := h
  have rhE := rh.er nD (show Mut (some (.lst ys)) from trivial) hD2
  have exH : Ext C.K ρ1 ρ H1 H := ex.trans (Ext.ofEr hD2)
  cases m with
  | zero => exact p.elim
  | succ n =>
    unfold lcGo at p
    cases hn : ni M i with
    | none => rw [hn] at p; exact p.elim
    | some o =>
      cases o with
      | none =>
        rw [hn] at p
        have p : Post C ρ (er H D) (.ok (.ref M.length) (M ++ [.lst acc])) (fun d _ ρ' H' => ∀ v, RV C.K H' ρ' d v → Q v H') (fun x _ ρ' H' => ∀ cls dd, RX C H' ρ' x cls dd → W cls dd σ H') := p
        refine .inl ⟨ok.stop ρ H M i exH.toMo rh hn, ?_⟩
        have e2 : Ext C.K ρ (ρ ++ [D]) (er H D) (upd (er H D) D (.lst ys)) := Ext.new1 (C := C) er_self
        have rh2 : RH C (ρ ++ [D]) (upd (er H D) D (.lst ys)) (M ++ [.lst acc]) := rhE.push er_self ⟨ys, upd_same, by rw [er_back hD2]; exact ra.mo ⟨List.prefix_append _ _, fun _ _ q => q, fun _ _ q => q⟩⟩
        rw [er_back hD2] at e2 rh2
        refine p _ _ e2 rh2 (.ref D) ?_
        unfold RV
        refine ⟨D, ?_, rfl⟩
        rw [← rh.len, List.getElem?_append_right (Nat.le_refl _), Nat.sub_self]
        rfl
      | some x =>
        rw [hn] at p
        have p : Post C ρ (er H D) (((g x (wipeE env vs) M).bindN fun env1 M1 => (c' env1 M1).bindN fun b M2 => if b then (e' env1 M2).bindN fun y M3 => if acc.length < SL then lcGo ni g c' e' (wipeE env vs) n (i + 1) (acc ++ [y]) M3 else .bad else lcGo ni g c' e' (wipeE env vs) n (i + 1) acc M2).bind fun l M2 => .ok (.ref M2.length) (M2 ++ [.lst l])) (fun d _ ρ' H' => ∀ v, RV C.K H' ρ' d v → Q v H') (fun x _ ρ' H' => ∀ cls dd, RX C H' ρ' x cls dd → W cls dd σ H') := p
        rw [R.bindN_bind] at p
        have mu : ∀ {zs : List V}, Mut (some (.lst zs)) := fun {_} => trivial
        refine .inr ⟨ok.go ρ H M i x exH.toMo rh hn, fun H => ∃ ρ M acc ys, Ext C.K ρ1 ρ H1 (er H D) ∧ RH C ρ H M ∧ D ∉ ρ ∧ H D = some (.lst ys) ∧ RVs C.K H ρ acc ys ∧
          Post C ρ (er H D) ((lcGo ni g c' e' (wipeE env vs) n (i + 1) acc M).bind fun l M2 => .ok (.ref M2.length) (M2 ++ [.lst l])) (fun d _ ρ' H' => ∀ v, RV C.K H' ρ' d v → Q v H') (fun x _ ρ' H' => ∀ cls dd, RX C H' ρ' x cls dd → W cls dd σ H'), fun H' h => ⟨n, Nat.lt_succ_self n, h⟩, fun v H' hy => ?_⟩
        obtain ⟨e2, rh2, rv⟩ := ok.yld ρ H M i x v H' exH.toMo rh hn hy
        obtain ⟨e2E, hD3, _⟩ := e2.er mu hD2 nD
        have ra2 := ra.mono e2
        refine ⟨ρ, M, wipeE env vs, x, _, rh2, re1.mono (exH.trans e2), rv, (Post.er mu hD3 nD (p.ext e2E).bindN).imp (fun env1 M2 ρ2 H2 e3 rh3 ⟨hD4, nD4, p3⟩ σ2 re3 hw => ?_) (fun _ _ _ _ _ _ q => q)⟩
        refine ⟨hw.trans (wipe_wipe σ vs), ?_⟩
        have ra3 := ra2.mono e3
        have ex3 := (ex.trans e2E).trans (e3.er mu hD3 nD).1
        rw [R.bindN_bind] at p3
        refine ⟨ρ2, M2, env1, rh3, re3, (Post.er mu hD4 nD4 p3.bindN).imp (fun b M3 ρ3 H3 e4 rh4 ⟨hD5, nD5, p4⟩ b' hb => ?_) (fun _ _ _ _ _ _ q => q.elim)⟩
        subst hb
        have ra4 := ra3.mono e4
        have ex4 := ex3.trans (e4.er mu hD4 nD4).1
        cases b' with
        | false =>
          exact ⟨ρ3, M3, acc, ys, ex4, rh4, nD5, hD5, ra4, p4⟩
        | true =>
          have p4 : Post C ρ3 (er H3 D) (((e' env1 M3).bindN fun y M3 => if acc.length < SL then lcGo ni g c' e' (wipeE env vs) n (i + 1) (acc ++ [y]) M3 else .bad).bind fun l M2 => .ok (.ref M2.length) (M2 ++ [.lst l])) (fun d _ ρ' H' => ∀ v, RV C.K H' ρ' d v → Q v H') (fun x _ ρ' H' => ∀ cls dd, RX C H' ρ' x cls dd → W cls dd σ H') := p4
          rw [R.bindN_bind] at p4
          refine ⟨ρ3, M3, env1, rh4, re3.mono e4, (Post.er mu hD5 nD5 p4.bindN).imp (fun y M4 ρ4 H4 e5 rh5 ⟨hD6, nD6, p5⟩ w rw_ => ?_) (fun _ _ _ _ _ _ q => q.elim)⟩
          have ra5 := ra4.mono e5
          have ex5 := ex4.trans (e5.er mu hD5 nD5).1
          by_cases hl : acc.length < SL
          · rw [if_pos hl] at p5
            refine ⟨ys, hD6, by rw [ra5.len, sizeLine_eq]; exact hl, ρ4, M4, acc ++ [y], ys ++ [w], ?_, ?_, nD6, upd_same, ?_, ?_⟩
            · rw [er_upd]; exact ex5
            · have q := (rh5.er nD6 mu hD6).beside (o := .lst (ys ++ [w])) (er_self (H := H4) (D := D))
              rw [upd_er] at q
              exact q
            · have m : Mo C.K ρ4 ρ4 H4 (upd H4 D (.lst (ys ++ [w]))) := by
                have q1 : Mo C.K ρ4 ρ4 H4 (er H4 D) := ⟨List.prefix_refl _, fun a xs q => SqT.er mu hD6 q, fun a xs q => FzL.er mu hD6 q⟩
                have q2 := (Ext.new (C := C) (ρ := ρ4) (o := .lst (ys ++ [w])) (er_self (H := H4) (D := D))).toMo
                rw [upd_er] at q2
                exact ⟨List.prefix_refl _, fun a xs q => q2.tup a xs (q1.tup a xs q), fun a xs q => q2.fz a xs (q1.fz a xs q)⟩
              exact (ra5.snoc rw_).mo m
            · rw [er_upd]; exact p5
          · rw [if_neg hl] at p5
            exact p5.elim
theorem m_lc {elt tg iter : Expr} {ifs : List Expr} {scope : Scope} {own : List (Str × Nat)} {pos : Pos} {it : Fi} {g : Ftg} {c' : Ft} {e' : Fe} (hc : X.calm = true) (hN : X.N.Nodup) (hi : PI X tg iter (tIt C W it)) (ok : BlkOk X.N X.env.scope scope own)
    (hg : ∀ (s : Shared) (H : Hp) (C' : Addr) (cl : List (Str × Addr)) (fp : List Addr), PG (X.blk s H scope (compEnvC scope cl C' X.env) fp) tg (tGt C (own.map (·.2)) g)) (ht : ∀ (s : Shared) (H : Hp) (C' : Addr) (cl : List (Str × Addr)) (fp : List Addr), PTs (X.blk s H scope (compEnvC scope cl C' X.env) fp) ifs (tT C W0 c'))
    (he : ∀ (s : Shared) (H : Hp) (C' : Addr) (cl : List (Str × Addr)) (fp : List Addr), PE (X.blk s H scope (compEnvC scope cl C' X.env) fp) elt (tE C W0 e')) (hs : ∀ x, foldedSetIterable iter X.env x = pure x := by intro _; rfl) :
    PE X (.ListComp elt [⟨tg, iter, ifs, 0⟩] scope pos) (tE C W (eLc it g c' e' (own.map (·.2)))) :=
  PE.imp (pe_lc hc hN hi ok hg ht he hs) fun σ H Q h => lc_read h
theorem m_setLc {i : Nat} {y : Str} {py : Pos} {elt tg iter : Expr} {ifs : List Expr} {scope : Scope} {own : List (Str × Nat)} {pos spos : Pos} {it : Fi} {g : Ftg} {c' : Ft} {e' : Fe} (hc : X.calm = true) (hN : X.N.Nodup) (hyl : X.env.scope.names.lookup y = some .local)
    (hsw : swapsWith (.ListComp elt [⟨tg, iter, ifs, 0⟩] scope pos) (some (.Name y py)) spos.line X.env = pure true) (hi : PI X tg iter (tIt C W it)) (ok : BlkOk X.N X.env.scope scope own)
    (hg : ∀ (s : Shared) (H : Hp) (C' : Addr) (cl : List (Str × Addr)) (fp : List Addr), PG (X.blk s H scope (compEnvC scope cl C' X.env) fp) tg (tGt C (own.map (·.2)) g)) (ht : ∀ (s : Shared) (H : Hp) (C' : Addr) (cl : List (Str × Addr)) (fp : List Addr), PTs (X.blk s H scope (compEnvC scope cl C' X.env) fp) ifs (tT C W0 c'))
    (he : ∀ (s : Shared) (H : Hp) (C' : Addr) (cl : List (Str × Addr)) (fp : List Addr), PE (X.blk s H scope (compEnvC scope cl C' X.env) fp) elt (tE C W0 e')) (hs : ∀ x, foldedSetIterable iter X.env x = pure x := by intro _; rfl) (hy : X.N[i]? = some y := by rfl) :
    PS X (.Assign [.Name y py] (.ListComp elt [⟨tg, iter, ifs, 0⟩] scope pos) spos) (tS C W (sSet i (eLc it g c' e' (own.map (·.2))))) := by
  refine PS.imp (ps_setLc hc hN hy hyl hsw hi ok hg ht he hs) fun D σ H h => ?_
  obtain ⟨ρ, M, env, rh, re, p⟩ := h
  have p := (p.st re).imp (F' := fun d _ ρ' H' => ∀ v, RV C.K H' ρ' d v → D.nx (σ.set i (some v)) H') (fun d M1 ρ1 H1 e1 rh1 p2 v rv => p2.nx rh1 ((re.mono e1).set i rv)) (fun _ _ _ _ _ _ q => q)
  exact lc_read ⟨ρ, M, env, rh, re, p⟩
end
end Mi
set_option maxRecDepth 100000
/-! Defs, calls, raise, try. -/
namespace Mi
open PySem PySem.Spec PyProof.Rows L2
/-- a def's promise: it does what G says of it -/
def spF (C : Cfg) (G : Ga) (np f : Nat) : Sp := fun vs H Q E => vs.length = np ∧ ∃ ρ M ds, RH C ρ H M ∧ RVs C.K H ρ ds vs ∧
  Post C ρ H (G f ds M) (fun d _ ρ' H' => ∀ v, RV C.K H' ρ' d v → Q v H') (fun x _ ρ' H' => ∀ cls dd, RX C H' ρ' x cls dd → E cls dd H')
/-- what a caller has of the def f at fa -/
structure Call1 (C : Cfg) (P : Program) (w : World) (K : PySem.W.Frag) (mg : Str → Option Value) (base : Heap) (A : Around) (G : Ga) (f : Nat) (fa : Addr) : Prop where
  np : ∃ np, (∀ ds M, ds.length ≠ np → G f ds M = .bad) ∧ ∃ k fd ps, FnOk P w K mg base (L2.CX P w) k fa fd ps (spF C G np f) ∧ Room (k + 1) A ∧ Binds K fd ps []
  kp : PySem.W.keepIn K (.ref fa) = true
section
variable {X : Cx} {C : Cfg} {W : WX}
theorem call_sp {G : Ga} {np f : Nat} {t' : Fa} (hl : ∀ ds M, ds.length ≠ np → G f ds M = .bad) {σ : L2.St} {H : Hp} {Q : VK} (h : tE C W (eCall G f t') σ H Q) : tCallS (spF C G np f) (WE W) (tA C W t') σ H Q := by
  obtain ⟨ρ, M, env, rh, re, p⟩ := h
  refine ⟨ρ, M, env, rh, re, p.bind.imp (fun ds M1 ρ1 H1 e1 rh1 p2 vs rvs => ?_) (fun _ _ _ _ _ _ q => q)⟩
  have hlen : ds.length = np := by
    by_cases h : ds.length = np
    · exact h
    · rw [hl ds M1 h] at p2
      exact p2.elim
  exact ⟨by rw [rvs.len]; exact hlen, ρ1, M1, ds, rh1, rvs, p2⟩
theorem m_call {G : Ga} {f : Nat} {fa : Addr} {x : Str} {p pos : Pos} {e : Expr} {es : List Expr} {t' : Fa} (c : Call1 C X.prog X.w X.K X.mg X.base X.A G f fa) (hm : X.mg x = some (.ref fa)) (tk : Takes X W) (ha : PA X (e :: es) (tA C W t')) (hg : Gl X x := by rfl)
    (hdb : (x == ("__debug__" : Str)) = false := by decide) (he : starEach (e :: es) X.env = (false, eval e X.env) :: starEach es X.env := by rfl) (hpl : (backTo pos (starEach es X.env)).any (·.1) = false := by rfl) :
    PE X (.Call (.Name x p) (e :: es) [] pos) (tE C W (eCall G f t')) := by
  obtain ⟨np, hl, k, fd, ps, F, hr, hb⟩ := c.np
  exact PE.imp (pe_callS F (hr.mono (Nat.le_succ k)) hg hm c.kp hb (fun σ => passAt tk σ) ha hdb he hpl) fun σ H Q h => call_sp hl h
theorem m_call0 {G : Ga} {f : Nat} {fa : Addr} {x : Str} {p pos : Pos} (c : Call1 C X.prog X.w X.K X.mg X.base X.A G f fa) (hm : X.mg x = some (.ref fa)) (tk : Takes X W) (hg : Gl X x := by rfl) (hdb : (x == ("__debug__" : Str)) = false := by decide) :
    PE X (.Call (.Name x p) [] [] pos) (tE C W (eCall G f aNil)) := by
  obtain ⟨np, hl, k, fd, ps, F, hr, hb⟩ := c.np
  refine ⟨fun pins s σ H Q I h => ?_⟩
  have h2 := call_sp hl h
  obtain ⟨ρ, M, env, rh, re, pp⟩ := h
  have h3 : spF C G np f [] H Q (WE W σ) := by
    have h4 : eCall G f aNil env M = G f [] M := rfl
    rw [h4] at pp
    have hlen : ([] : List MV).length = np := by
      by_cases h : ([] : List MV).length = np
      · exact h
      · rw [hl [] M h] at pp
        exact pp.elim
    exact ⟨hlen, ρ, M, [], rh, RVs.nil, pp⟩
  refine wpAny_Call_Name_kw (ld_glob I hg hm ?_ hdb)
  exact PySem.W.callWith_K0 I.kIn c.kp (run_fnS (us := []) (E := WE W) F (hr.mono (Nat.le_succ k)) hb (passAt tk σ) I .nil h3)
end

/-- the wish of a def's body -/
abbrev WB (E : XK) : WX := fun cls d _ H => E cls d H
abbrev Bx (P : Program) (w : World) (K : PySem.W.Frag) (mg : Str → Option Value) (base : Heap) (N : List Str) (qual : Str) (sc : Scope) (f : Addr) (cdv : Value) (A : Around) (outer : List PySem.Env) (s : Shared) (H : Hp) (E : XK) : Cx :=
  cxOf (L2.CX P w) P w K mg base N qual sc f cdv A outer s H E
section
variable {P : Program} {w : World} {K : PySem.W.Frag} {mg : Str → Option Value} {base : Heap} {C : Cfg}
theorem start_re {ρ : List Addr} {H : Hp} {ds : List MV} {vs : List V} {N : List Str} (r : RVs C.K H ρ ds vs) (hl : ds.length ≤ N.length) : RE C.K H ρ (ds.map some ++ List.replicate (N.length - ds.length) none) (L2.start N vs) := by
  have e := r.len
  refine ⟨?_, fun i d h => ?_⟩
  · unfold L2.start
    simp only [List.length_append, List.length_map, List.length_replicate]
    omega
  · by_cases hi : i < ds.length
    · rw [List.getElem?_append_left (by simpa using hi), List.getElem?_map] at h
      cases q : ds[i]? with
      | none => rw [q] at h; cases h
      | some d' =>
        rw [q] at h
        cases h
        obtain ⟨v, hv, rv⟩ := r.get q
        refine ⟨v, ?_, rv⟩
        unfold L2.start
        rw [List.getElem?_append_left (by simpa [e] using hi), List.getElem?_map, hv]
        rfl
    · rw [List.getElem?_append_right (by simpa using Nat.le_of_not_lt hi), List.getElem?_replicate] at h
      split at h <;> cases h
theorem res_post {Q : VK} {E : XK} {ρ : List Addr} {H : Hp} {r : RS} (p : Post C ρ H r.res (fun d _ ρ' H' => ∀ v, RV C.K H' ρ' d v → Q v H') (fun x _ ρ' H' => ∀ cls dd, RX C H' ρ' x cls dd → E cls dd H')) :
    PostS C ρ H r { nx := fun _ H' => Q .non H', rt := Q } (WB E) := by
  cases r with
  | ok o env M =>
    cases o with
    | nx =>
      have p' : Post C ρ H (.ok .non M) (fun d _ ρ' H' => ∀ v, RV C.K H' ρ' d v → Q v H') (fun x _ ρ' H' => ∀ cls dd, RX C H' ρ' x cls dd → E cls dd H') := p
      exact fun ρ' H' σ' e rh _ => p' ρ' H' e rh .non (by unfold RV; rfl)
    | ret d =>
      have p' : Post C ρ H (.ok d M) (fun d _ ρ' H' => ∀ v, RV C.K H' ρ' d v → Q v H') (fun x _ ρ' H' => ∀ cls dd, RX C H' ρ' x cls dd → E cls dd H') := p
      exact fun ρ' H' v e rh rv => p' ρ' H' e rh v rv
    | brk => exact p.elim
    | cnt => exact p.elim
  | exc x env M =>
    have p' : Post C ρ H (.exc x M) (fun d _ ρ' H' => ∀ v, RV C.K H' ρ' d v → Q v H') (fun x _ ρ' H' => ∀ cls dd, RX C H' ρ' x cls dd → E cls dd H') := p
    exact fun ρ' H' σ' cls dd e rh _ rx => p' ρ' H' e rh cls dd rx
  | bad => exact p.elim
/-- a def of the text by its body, a call deeper -/
theorem fn_mi {x qual : Str} {st : Stmt} {fa : Addr} {fd : FuncData} {N ps : List Str} {k f : Nat} {G G' : Ga} {d : Df} (F : Fun K x qual st fa fd) (S : FnScope N ps (defScope st)) (hd : d.np = ps.length ∧ d.ns = N.length)
    (hG : ∀ ds M, G' f ds M = callD d G ds M)
    (hbody : ∀ (cdv : Value) (A : Around) (outer : List PySem.Env) (s : Shared) (H : Hp) (E : XK), Room k (A.deeper (envOfC qual (defScope st) s.heap.objs.size fa cdv)) →
      PSs (Bx P w K mg base N qual (defScope st) fa cdv A outer s H E) (defBody st) (tS C (WB E) (d.bd G))) : FnOk P w K mg base (L2.CX P w) (k + 1) fa fd ps (spF C G' ps.length f) := by
  refine F.okX S (fun vs H Q E h => h.1) (fun cdv A outer s H vs Q E hr h => ⟨tS C (WB E) (d.bd G), hbody cdv A outer s H E hr, ?_⟩)
  obtain ⟨hl, ρ, M, ds, rh, rvs, p⟩ := h
  have hN : ps.length ≤ N.length := by have := congrArg List.length S.pre; rw [List.length_take] at this; omega
  have hds : ds.length = ps.length := by rw [← rvs.len]; exact hl
  rw [hG] at p
  unfold callD at p
  rw [if_pos (by rw [hds]; exact hd.1.symm), hd.1, hd.2] at p
  refine ⟨ρ, M, _, rh, ?_, res_post (gc_postW rh p)⟩
  have q := start_re (N := N) rvs (by rw [hds]; exact hN)
  rw [hds] at q
  exact q
end

/-! ### raise C('..') -/
def sRaiseC (c : Nat) : Fs := fun env M => .exc ⟨c, none⟩ env M
/-- what an own exception class without own __init__ must have -/
structure ExC (K : PySem.W.Frag) (cA : Addr) : Prop where
  ex : PySem.W.excIn K cA [.type "ValueError", .type "Exception", .type "BaseException", .type "object"] "ValueError.__new__" = true
  kp : PySem.W.keepIn K (.ref cA) = true
  sb : PySem.W.subIn K (.ref cA) (.type "BaseException") = some true
  ty : PySem.W.typeIn K (.ref cA) = some (.type "type")
section
variable {X : Cx} {C : Cfg} {W : WX}
theorem m_raise {c : Nat} {x m : Str} {j : Nat} {p p2 pos pos2 : Pos} (hc : X.calm = true) (tk : Takes X W) (E : ExC X.K (C.cA c)) (hm : X.mg x = some (.ref (C.cA c))) (hg : Gl X x := by rfl) (hdb : (x == ("__debug__" : Str)) = false := by decide) :
    PS X (.Raise (some (.Call (.Name x p) [.Constant (.str m) j p2] [] pos)) none pos2) (tS C W (sRaiseC c)) := by
  refine PS.imp (ps_raise hc tk (pmk_own PySem.F.excBase_ValueError E.ex hm E.kp (raises_own E.sb E.ty) hg hdb)) fun D σ H h => ?_
  obtain ⟨ρ, M, env, rh, re, p⟩ := h
  exact p ρ H σ _ none Ext.refl rh re ⟨rfl, trivial⟩

/-! ### try .. except C as n: suite -/
/-- sub: which classes the clause names -/
def sTryAs (b : Fs) (sub : Nat → Option Bool) (i : Nat) (su : MX → Fs) : Fs := fun env M => match b env M with
  | .exc x env1 M1 => (match sub x.cls with
    | some true => if i < env1.length then (match su x (env1.set i none) M1 with
      | .ok o env2 M2 => .ok o (env2.set i none) M2
      | _ => .bad) else .bad
    | some false => .exc x env1 M1
    | none => .bad)
  | r => r
/-- what a suite does, the exception in slot i -/
def tSu (C : Cfg) (i : Nat) (su : MX → Fs) (a : Addr) (cls : Value) (d : Option Addr) : TS := fun D σ H => ∃ x ρ M env, RX C H ρ x cls d ∧ H a = none ∧ RH C ρ H M ∧ RE C.K H ρ env σ ∧ σ[i]? = some (some (.ref a)) ∧
  PostS C ρ H (su x env M) D W0
theorem PostS.setNone {ρ : List Addr} {H : Hp} {i : Nat} {r : RS} {D : Ends} (p : PostS C ρ H (match r with
      | .ok o env2 M2 => .ok o (env2.set i none) M2
      | _ => .bad) D W) : PostS C ρ H r { nx := fun σ' H' => D.nx (σ'.set i none) H', rt := D.rt, bk := fun σ' H' => D.bk (σ'.set i none) H', ct := fun σ' H' => D.ct (σ'.set i none) H' } W0 := by
  cases r with
  | ok o env M =>
    cases o with
    | nx => exact fun ρ' H' σ' e rh re => p ρ' H' _ e rh (re.none i Option.none)
    | brk => exact fun ρ' H' σ' e rh re => p ρ' H' _ e rh (re.none i Option.none)
    | cnt => exact fun ρ' H' σ' e rh re => p ρ' H' _ e rh (re.none i Option.none)
    | ret d => exact p
  | exc x env M => exact p.elim
  | bad => exact p.elim
theorem m_try_as {i : Nat} {x n : Str} {c : Addr} {sub : Nat → Option Bool} {body suite : List Stmt} {b₀ : Stmt} {b' : Fs} {su : MX → Fs} {np pos pos' : Pos} (hK : C.K = X.K) (hN : X.N.Nodup) (tk : Takes X W) (hm : X.mg x = some (.ref c))
    (hsub : ∀ j b, sub j = some b → PySem.W.exmOne X.K (.ref (C.cA j)) (.ref c) = some b)
    (hb : ∀ (W' : WX) (pn : List (Addr × Obj)) (xe : Value → Shared → Prop), Takes (X.tr pn xe) W' → PassesOwn (model X.prog X.w) X.A X.env xe → PSs (X.tr pn xe) body (tS C W' b'))
    (hsu : ∀ (a : Addr) (oe : Obj) (cls : Value) (d : Option Addr) (pn : List (Addr × Obj)), Zc cls d oe → (∃ vs, oe.data = .fields vs) → PSs (X.suite a ((a, oe) :: pn)) (b₀ :: suite) (tSu C i su a cls d))
    (hs : X.stack = X.env :: X.outer := by rfl) (hf : X.env.frame = some X.env.locals := by rfl) (hi : X.N[i]? = some n := by rfl) (hln : X.env.kindOf n = some .local := by rfl) (hg : Gl X x := by rfl) (hdb : (x == ("__debug__" : Str)) = false := by decide) :
    PS X (.Try body [.ExceptHandler (some (.Name x np)) (some n) (b₀ :: suite) pos'] [] [] pos) (tS C W (sTryAs b' sub i su)) := by
  refine PS.imp (ps_try_as (i := i) (tb := fun W' => tS C W' b') (ts := tSu C i su) (Wout := W) hs hf hN hi hln ⟨hg, hdb, .inl hm⟩ tk hb hsu) fun D σ H h => ?_
  obtain ⟨ρ, M, env, rh, re, p⟩ := h
  have hiN : i < X.N.length := (List.getElem?_eq_some_iff.mp hi).1
  refine ⟨ρ, M, env, rh, re, ?_⟩
  unfold sTryAs at p
  cases e : b' env M with
  | bad => rw [e] at p; exact p
  | ok o env1 M1 => rw [e] at p; cases o <;> exact p
  | exc x env1 M1 =>
    rw [e] at p
    have p : PostS C ρ H (match sub x.cls with
      | some true => if i < env1.length then (match su x (env1.set i none) M1 with
        | .ok o env2 M2 => .ok o (env2.set i none) M2
        | _ => .bad) else .bad
      | some false => .exc x env1 M1
      | none => .bad) D W := p
    intro ρ' H' σ' cls dd ex rh' re' rx
    cases hs2 : sub x.cls with
    | none => rw [hs2] at p; exact p.elim
    | some b =>
      rw [hs2] at p
      refine ⟨b, by rw [rx.1]; exact hsub _ _ hs2, fun hb a ha => ?_, fun hb => ?_⟩
      · subst hb
        have p : PostS C ρ H (if i < env1.length then (match su x (env1.set i none) M1 with
          | .ok o env2 M2 => .ok o (env2.set i none) M2
          | _ => .bad) else .bad) D W := p
        by_cases hl : i < env1.length
        · rw [if_pos hl] at p
          exact ⟨x, ρ', M1, env1.set i none, rx, ha, rh', re'.none i _, List.getElem?_set_self (by rw [re'.len]; exact hl), PostS.setNone (p.ext ex)⟩
        · rw [if_neg hl] at p
          exact p.elim
      · subst hb
        have p : PostS C ρ H (.exc x env1 M1) D W := p
        exact p ρ' H' σ' cls dd ex rh' re' rx
/-- return isinstance(e, Z) -/
def suIs (isI : Nat → Option Bool) : MX → Fs := fun x env M => match isI x.cls with
  | some b => if x.fs.isNone then .ok (.ret (.bl b)) env M else .bad
  | none => .bad
theorem msu_is {i : Nat} {n z : Str} {ca : Addr} {isI : Nat → Option Bool} {p0 p1 p2 p3 p4 : Pos} (hz : X.mg z = some (.ref ca)) (hmi : X.mg "isinstance" = none)
    (hI : ∀ j b, isI j = some b → ExcC X.K (C.cA j) ∧ PySem.W.kitOne X.K (.ref (C.cA j)) (.ref ca) = some b)
    {a : Addr} {oe : Obj} {cls : Value} {d : Option Addr} {pn : List (Addr × Obj)} (hzc : Zc cls d oe) (hf : ∃ vs, oe.data = .fields vs)
    (hi : X.N[i]? = some n := by rfl) (hv : Vis X.env.scope n := by first | exact Or.inl rfl | exact Or.inr (Or.inl rfl)) (hg : Gl X z := by rfl) (hgi : Gl X "isinstance" := by rfl) (hd1 : (n == ("__debug__" : Str)) = false := by decide) (hd2 : (n == ("__classdict__" : Str)) = false := by decide) (hd3 : (z == ("__debug__" : Str)) = false := by decide) :
    PSs (X.suite a ((a, oe) :: pn)) [.Return (some (.Call (.Name "isinstance" p0) [.Name n p1, .Name z p2] [] p3)) p4] (tSu C i (suIs isI) a cls d) := by
  refine ⟨fun pins s σ H D I h => ?_⟩
  obtain ⟨x, ρ, M, env, rx, ha, rh, re, hσ, p⟩ := h
  unfold suIs at p
  cases hj : isI x.cls with
  | none => simp only [hj] at p; exact p.elim
  | some b =>
    simp only [hj] at p
    obtain ⟨E1, E2⟩ := hI _ _ hj
    cases hx : x.fs with
    | some fs => rw [hx] at p; exact p.elim
    | none =>
      rw [hx] at p
      have p : PostS C ρ H (.ok (.ret (.bl b)) env M) D W0 := p
      obtain ⟨rc, rd⟩ := rx
      have hd : d = none := by
        cases d with
        | none => rfl
        | some a' => rw [hx] at rd; exact rd.elim
      subst hd
      subst rc
      have pe : PSs (X.suite a ((a, oe) :: pn)) [.Return (some (.Call (.Name "isinstance" p0) [.Name n p1, .Name z p2] [] p3)) p4] _ :=
        pss_one (ps_ret (pe_callB (X := X.suite a ((a, oe) :: pn)) (call_isE (X := X) (a := a) E1 hzc hf) hgi hmi (by decide +kernel) (pa_cons (pe_var (i := i) hi hv hd1 hd2) (pa_cons (pe_glob (v := .ref ca) hg hz rfl hd3) pa_nil))))
      refine pe.run pins s σ H D I ?_
      exact ⟨.ref a, hσ, .ref ca, .ref ca, b, rfl, fun u hu => hu, E2, p.ret rh (by unfold RV; rfl)⟩
end
end Mi
set_option maxRecDepth 100000
/-! Operations on values. -/
namespace Mi
open PySem PySem.Spec PyProof.Rows L2
section
variable {K : PySem.W.Frag} {H : Hp} {ρ : List Addr} {v : V}
theorem rv_non : RV K H ρ .non v ↔ v = .non := by unfold RV; exact Iff.rfl
theorem rv_bl {b : Bool} : RV K H ρ (.bl b) v ↔ v = .bl b := by unfold RV; exact Iff.rfl
theorem rv_int {i : Int} : RV K H ρ (.int i) v ↔ v = .int i := by unfold RV; exact Iff.rfl
theorem rv_str {s : Tx} : RV K H ρ (.str s) v ↔ v = .str (T s) := by unfold RV; exact Iff.rfl
theorem rv_tup {l : List MV} : RV K H ρ (.tup l) v ↔ ∃ a xs, v = .ref a ∧ SqT K H a xs ∧ RVs K H ρ l xs := by
  constructor
  · intro h; unfold RV at h; exact h
  · intro h; unfold RV; exact h
theorem rv_ref {i : Nat} : RV K H ρ (.ref i) v ↔ ∃ a, ρ[i]? = some a ∧ v = .ref a := by unfold RV; exact Iff.rfl
theorem rv_rol {l : List MV} : RV K H ρ (.rol l) v ↔ ∃ a xs, v = .ref a ∧ FzL K H a xs ∧ RVs K H ρ l xs := by
  constructor
  · intro h; unfold RV at h; exact h
  · intro h; unfold RV; exact h
theorem rvs_nil {vs : List V} : RVs K H ρ [] vs ↔ vs = [] := by unfold RVs; exact Iff.rfl
theorem rvs_cons {d : MV} {ds : List MV} {vs : List V} : RVs K H ρ (d :: ds) vs ↔ ∃ v r, vs = v :: r ∧ RV K H ρ d v ∧ RVs K H ρ ds r := by
  constructor
  · intro h; unfold RVs at h; exact h
  · intro h; unfold RVs; exact h
end
section
variable {C : Cfg} {ρ : List Addr} {H : Hp} {M : Hm} {Q : VK} {G : MX → Hm → List Addr → Hp → Prop}
/-- what follows a value: F of Post -/
abbrev Fv (C : Cfg) (Q : VK) : MV → Hm → List Addr → Hp → Prop := fun z _ ρ' H' => ∀ v, RV C.K H' ρ' z v → Q v H'
theorem Post.val {d : MV} {v : V} (p : Post C ρ H (.ok d M) (Fv C Q) G) (h : RH C ρ H M) (r : RV C.K H ρ d v) : Q v H := p.now h v r
theorem Post.newL {l : List MV} {xs : List V} (p : Post C ρ H (.ok (.ref M.length) (M ++ [.lst l])) (Fv C Q) G) (h : RH C ρ H M) (r : RVs C.K H ρ l xs) {a : Addr} (ha : H a = none) : Q (.ref a) (upd H a (.lst xs)) := by
  have e : Ext C.K ρ (ρ ++ [a]) H (upd H a (.lst xs)) := Ext.new1 (C := C) ha
  refine p _ _ e (h.push ha ⟨xs, upd_same, r.mono e⟩) (.ref a) (rv_ref.mpr ⟨a, ?_, rfl⟩)
  rw [← h.len, List.getElem?_append_right (Nat.le_refl _), Nat.sub_self]
  rfl
theorem Post.newT {l : List MV} {xs : List V} (p : Post C ρ H (.ok (.tup l) M) (Fv C Q) G) (h : RH C ρ H M) (r : RVs C.K H ρ l xs) {a : Addr} (ha : H a = none) : Q (.ref a) (upd H a (.tup xs)) := by
  have e : Ext C.K ρ ρ H (upd H a (.tup xs)) := Ext.new (C := C) ha
  exact p _ _ e (h.beside ha) (.ref a) (rv_tup.mpr ⟨a, xs, rfl, SqT.of upd_same, r.mono e⟩)
theorem Post.setL {d : MV} {v : V} {i : Nat} {a : Addr} {l : List MV} {xs : List V} (p : Post C ρ H (.ok d (M.set i (.lst l))) (Fv C Q) G) (h : RH C ρ H M) (ha : ρ[i]? = some a) (r : RVs C.K H ρ l xs) (rd : RV C.K H ρ d v) : Q v (upd H a (.lst xs)) := by
  obtain ⟨o, hm, ro⟩ := h.there ha
  obtain ⟨u, hu, mu⟩ := ro.mut
  have e : Ext C.K ρ ρ H (upd H a (.lst xs)) := Ext.wr (C := C) hu mu (List.mem_of_getElem? ha)
  exact p _ _ e (h.set ha ⟨xs, upd_same, r.mono e⟩) v (rd.mono e)
end

/-! ### + - * // % ** -/
def fAdd : MV → MV → Hm → R MV
  | .int i, .int j, M => .ok (.int (i + j)) M
  | .str s, .str t, M => if s.length + t.length ≤ SL then .ok (.str (s ++ t)) M else .bad
  | .tup s, .tup t, M => if s.length + t.length ≤ SL then .ok (.tup (s ++ t)) M else .bad
  | .ref i, .ref j, M => match M[i]?, M[j]? with
    | some (.lst s), some (.lst t) => if s.length + t.length ≤ SL then .ok (.ref M.length) (M ++ [.lst (s ++ t)]) else .bad
    | _, _ => .bad
  | _, _, _ => .bad
def rAddM (K : PySem.W.Frag) : R2 := fun x y H Q => (∃ i j, x = .int i ∧ y = .int j ∧ Q (.int (i + j)) H) ∨ (∃ i j, x = .str i ∧ y = .str j ∧ i.length + j.length ≤ sizeLine ∧ Q (.str (i ++ j)) H) ∨ rCatA K x y H Q ∨ rCat x y H Q
theorem op_addM {X : Cx} : OpR X (binaryOp .Add) (rAddM X.K) := op_add.or (op_add_str.or (op_catA.or op_cat))
theorem sim_add {C : Cfg} : Sim2 C fAdd (rAddM C.K) := by
  intro ρ H M d e x y Q G rh rx ry p
  unfold fAdd at p
  split at p
  · rw [rv_int] at rx ry; subst rx; subst ry
    exact .inl ⟨_, _, rfl, rfl, p.val rh (rv_int.mpr rfl)⟩
  · rw [rv_str] at rx ry; subst rx; subst ry
    split at p
    · rename_i s t hl
      refine .inr (.inl ⟨_, _, rfl, rfl, by rw [T_len, T_len, sizeLine_eq]; exact hl, ?_⟩)
      rw [T_app]
      exact p.val rh (rv_str.mpr rfl)
    · exact p.elim
  · rename_i s t
    rw [rv_tup] at rx ry
    obtain ⟨a, xs, rfl, h1, h2⟩ := rx
    obtain ⟨b, ys, rfl, h3, h4⟩ := ry
    split at p
    · rename_i hl
      refine .inr (.inr (.inl ⟨a, b, xs, ys, rfl, rfl, h1, h3, by rw [h2.len, h4.len, sizeLine_eq]; exact hl, fun e => ?_, fun e1 e2 => ?_, fun e1 e2 q hq => ?_⟩))
      · subst e
        have : s = [] := by cases s with | nil => rfl | cons _ _ => have := h2.len; simp at this
        subst this
        exact p.val rh (rv_tup.mpr ⟨b, ys, rfl, h3, h4⟩)
      · subst e2
        have : t = [] := by cases t with | nil => rfl | cons _ _ => have := h4.len; simp at this
        subst this
        rw [List.append_nil] at p
        exact p.val rh (rv_tup.mpr ⟨a, xs, rfl, h1, h2⟩)
      · exact p.newT rh (h2.app h4) hq
    · exact p.elim
  · rename_i i j
    rw [rv_ref] at rx ry
    obtain ⟨a, ha, rfl⟩ := rx
    obtain ⟨b, hb, rfl⟩ := ry
    split at p
    · rename_i s t h1 h2
      obtain ⟨xs, q1, q2⟩ := rh.at h1 ha
      obtain ⟨ys, q3, q4⟩ := rh.at h2 hb
      split at p
      · rename_i hl
        exact .inr (.inr (.inr ⟨a, b, xs, ys, rfl, rfl, q1, q3, by rw [q2.len, q4.len, sizeLine_eq]; exact hl, fun q hq => p.newL rh (q2.app q4) hq⟩))
      · exact p.elim
    · exact p.elim
  · exact p.elim
def fInt2 (g : Int → Int → Int) : MV → MV → Hm → R MV
  | .int i, .int j, M => .ok (.int (g i j)) M
  | _, _, _ => .bad
def fInt2C (c : Int → Int → Bool) (g : Int → Int → Int) : MV → MV → Hm → R MV
  | .int i, .int j, M => if c i j then .ok (.int (g i j)) M else .bad
  | _, _, _ => .bad
theorem sim_int2 {C : Cfg} {g : Int → Int → Int} : Sim2 C (fInt2 g) (rI0 fun i j => .int (g i j)) := by
  intro ρ H M d e x y Q G rh rx ry p
  unfold fInt2 at p
  split at p
  · rw [rv_int] at rx ry; subst rx; subst ry
    exact ⟨_, _, rfl, rfl, p.val rh (rv_int.mpr rfl)⟩
  · exact p.elim
theorem sim_int2C {C : Cfg} {c : Int → Int → Bool} {Cc : Int → Int → Prop} {g : Int → Int → Int} (hc : ∀ i j, c i j = true → Cc i j) : Sim2 C (fInt2C c g) (rI Cc fun i j => .int (g i j)) := by
  intro ρ H M d e x y Q G rh rx ry p
  unfold fInt2C at p
  split at p
  · rw [rv_int] at rx ry; subst rx; subst ry
    split at p
    · rename_i i j h
      exact ⟨_, _, rfl, rfl, hc _ _ h, p.val rh (rv_int.mpr rfl)⟩
    · exact p.elim
  · exact p.elim
abbrev fSub := fInt2 fun i j => i - j
/-- factors of together less than a million bits, or one of them below 2^64 -/
def cMul (i j : Int) : Bool := decide (i.natAbs.log2 + j.natAbs.log2 < 1000000) || decide (i.natAbs < 18446744073709551616) || decide (j.natAbs < 18446744073709551616)
def fMul : MV → MV → Hm → R MV := fInt2C cMul fun i j => i * j
def rMulM : R2 := fun x y H Q => rI CMulW (fun i j => .int (i * j)) x y H Q ∨ rI CMul (fun i j => .int (i * j)) x y H Q
theorem op_mulM {X : Cx} : OpR X (binaryOp .Mult) rMulM := fun pins s σ H x y v u Q I rx ry h => by
  rcases h with h | h
  · exact op_mulW pins s σ H x y v u Q I rx ry h
  · exact op_mul pins s σ H x y v u Q I rx ry h
theorem sim_mul {C : Cfg} : Sim2 C fMul rMulM := fun ρ H M d e x y Q G rh rx ry p => by
  by_cases hw : ∃ i j : Int, d = .int i ∧ e = .int j ∧ i.natAbs.log2 + j.natAbs.log2 < 1000000
  · obtain ⟨i, j, rfl, rfl, hw⟩ := hw
    rw [rv_int] at rx ry; subst rx; subst ry
    have : cMul i j = true := by
      unfold cMul
      rw [decide_eq_true hw]
      rfl
    unfold fMul fInt2C at p
    simp only [this, if_true] at p
    exact .inl ⟨_, _, rfl, rfl, hw, p.val rh (rv_int.mpr rfl)⟩
  · unfold fMul fInt2C at p
    split at p
    · rw [rv_int] at rx ry; subst rx; subst ry
      split at p
      · rename_i i j h
        unfold cMul at h
        simp only [Bool.or_eq_true, decide_eq_true_eq] at h
        refine .inr ⟨_, _, rfl, rfl, ?_, p.val rh (rv_int.mpr rfl)⟩
        rcases h with (h | h) | h
        · exact absurd ⟨i, j, rfl, rfl, h⟩ hw
        · exact .inl ⟨by omega, by omega⟩
        · exact .inr ⟨by omega, by omega⟩
      · exact p.elim
    · exact p.elim
def cDiv (_ j : Int) : Bool := decide (0 < j) && decide (j.natAbs.log2 < 9000)
def fDiv : MV → MV → Hm → R MV := fInt2C cDiv fun i j => i / j
theorem sim_div {C : Cfg} : Sim2 C fDiv (rI CDivW fun i j => .int (i / j)) := sim_int2C fun i j h => by
  unfold cDiv at h
  rw [Bool.and_eq_true, decide_eq_true_eq, decide_eq_true_eq] at h
  exact h
def cMod (_ j : Int) : Bool := decide (0 < j)
def fMod : MV → MV → Hm → R MV := fInt2C cMod fun i j => i % j
theorem sim_mod {C : Cfg} : Sim2 C fMod (rI (fun _ j => 0 < j) fun i j => .int (i % j)) := sim_int2C fun i j h => of_decide_eq_true h
def cPow (i j : Int) : Bool := decide (0 ≤ j) && decide (j ≤ 1000) && decide (i.natAbs < 1000)
def fPow : MV → MV → Hm → R MV := fInt2C cPow fun i j => i ^ j.toNat
theorem sim_pow {C : Cfg} : Sim2 C fPow (rI CPow fun i j => .int (i ^ j.toNat)) := sim_int2C fun i j h => by
  unfold cPow at h
  simp only [Bool.and_eq_true, decide_eq_true_eq] at h
  exact ⟨h.1.1, by omega, by omega⟩
def fNeg : MV → Hm → R MV
  | .int i, M => .ok (.int (-i)) M
  | _, _ => .bad
theorem sim_neg {C : Cfg} : Sim1 C fNeg (rU fun i => .int (-i)) := by
  intro ρ H M d x Q G rh rx p
  unfold fNeg at p
  split at p
  · rw [rv_int] at rx; subst rx
    exact ⟨_, rfl, p.val rh (rv_int.mpr rfl)⟩
  · exact p.elim

/-! ### comparisons -/
def txLt (a b : Tx) : Bool := decide (a < b)
def fCmp (g : Int → Int → Bool) (h : Tx → Tx → Bool) : MV → MV → Hm → R MV
  | .int i, .int j, M => .ok (.bl (g i j)) M
  | .str s, .str t, M => .ok (.bl (h s t)) M
  | _, _, _ => .bad
def rCmp (g : Int → Int → Bool) (h : Str → Str → Bool) : R2 := fun x y H Q => (∃ i j, x = .int i ∧ y = .int j ∧ Q (.bl (g i j)) H) ∨ ∃ i j, x = .str i ∧ y = .str j ∧ Q (.bl (h i j)) H
theorem sim_cmp {C : Cfg} {g : Int → Int → Bool} {h : Tx → Tx → Bool} {h' : Str → Str → Bool} (hh : ∀ a b, h' (T a) (T b) = h a b) : Sim2 C (fCmp g h) (rCmp g h') := by
  intro ρ H M d e x y Q G rh rx ry p
  unfold fCmp at p
  split at p
  · rw [rv_int] at rx ry; subst rx; subst ry
    exact .inl ⟨_, _, rfl, rfl, p.val rh (rv_bl.mpr rfl)⟩
  · rw [rv_str] at rx ry; subst rx; subst ry
    refine .inr ⟨_, _, rfl, rfl, ?_⟩
    rw [hh]
    exact p.val rh (rv_bl.mpr rfl)
  · exact p.elim
def fLt := fCmp (fun i j => decide (i < j)) fun a b => decide (a < b)
def fLe := fCmp (fun i j => decide (i ≤ j)) fun a b => !decide (b < a)
def fGt := fCmp (fun i j => decide (j < i)) fun a b => decide (b < a)
def fGe := fCmp (fun i j => decide (j ≤ i)) fun a b => !decide (a < b)
section
variable {X : Cx} {C : Cfg}
theorem op_ltM : OpR X (compareOp .Lt) (rCmp (fun i j => decide (i < j)) fun a b => decide (a.cps.toList < b.cps.toList)) := op_lt.or op_lt_str
theorem op_leM : OpR X (compareOp .LtE) (rCmp (fun i j => decide (i ≤ j)) fun a b => !decide (b.cps.toList < a.cps.toList)) := op_le.or op_le_str
theorem op_gtM : OpR X (compareOp .Gt) (rCmp (fun i j => decide (j < i)) fun a b => decide (b.cps.toList < a.cps.toList)) := op_gt.or op_gt_str
theorem op_geM : OpR X (compareOp .GtE) (rCmp (fun i j => decide (j ≤ i)) fun a b => !decide (a.cps.toList < b.cps.toList)) := op_ge.or op_ge_str
theorem sim_lt : Sim2 C fLt (rCmp (fun i j => decide (i < j)) fun a b => decide (a.cps.toList < b.cps.toList)) := sim_cmp fun a b => by rw [T_list, T_list]
theorem sim_le : Sim2 C fLe (rCmp (fun i j => decide (i ≤ j)) fun a b => !decide (b.cps.toList < a.cps.toList)) := sim_cmp fun a b => by rw [T_list, T_list]
theorem sim_gt : Sim2 C fGt (rCmp (fun i j => decide (j < i)) fun a b => decide (b.cps.toList < a.cps.toList)) := sim_cmp fun a b => by rw [T_list, T_list]
theorem sim_ge : Sim2 C fGe (rCmp (fun i j => decide (j ≤ i)) fun a b => !decide (a.cps.toList < b.cps.toList)) := sim_cmp fun a b => by rw [T_list, T_list]
end
/-- a value as data -/
def pyD : Nat → Hm → MV → Option PyData
  | 0, _, _ => none
  | n + 1, M, d => match d with
    | .non => some .none
    | .bl b => some (.bool b)
    | .int i => some (.int i)
    | .str s => some (.str (T s))
    | .tup l => (l.mapM (pyD n M)).map .tuple
    | .rol l => (l.mapM (pyD n M)).map .list
    | .ref i => match M[i]? with
      | some (.lst l) => (l.mapM (pyD n M)).map .list
      | _ => none
theorem dp_of {C : Cfg} {ρ : List Addr} {H : Hp} {M : Hm} (rh : RH C ρ H M) : ∀ (n : Nat) (d : MV) (v : V) (x : PyData), RV C.K H ρ d v → pyD n M d = some x → Dp C.K H v x := by
  intro n
  induction n with
  | zero => intro d v x _ e; cases e
  | succ n ih =>
    have all : ∀ (l : List MV) (vs : List V) (xs : List PyData), RVs C.K H ρ l vs → l.mapM (pyD n M) = some xs → DpAll C.K H vs xs := by
      intro l
      induction l with
      | nil =>
        intro vs xs r e
        rw [rvs_nil] at r
        subst r
        rw [List.mapM_nil] at e
        cases e
        exact .nil
      | cons d l ihl =>
        intro vs xs r e
        rw [rvs_cons] at r
        obtain ⟨v, r', rfl, r1, r2⟩ := r
        rw [List.mapM_cons] at e
        cases h1 : pyD n M d with
        | none => rw [h1] at e; cases e
        | some x =>
          cases h2 : l.mapM (pyD n M) with
          | none => rw [h1, h2] at e; cases e
          | some xs' =>
            rw [h1, h2] at e
            cases e
            exact .cons (ih d v x r1 h1) (ihl r' xs' r2 h2)
    intro d v x r e
    cases d with
    | non => rw [rv_non] at r; subst r; cases e; exact .non
    | bl b => rw [rv_bl] at r; subst r; cases e; exact .bl b
    | int i => rw [rv_int] at r; subst r; cases e; exact .int i
    | str s => rw [rv_str] at r; subst r; cases e; exact .str _
    | tup l =>
      rw [rv_tup] at r
      obtain ⟨a, xs, rfl, h1, h2⟩ := r
      have e : (l.mapM (pyD n M)).map PyData.tuple = some x := e
      cases h : l.mapM (pyD n M) with
      | none => rw [h] at e; cases e
      | some ys => rw [h] at e; cases e; exact .tup h1 (all l xs ys h2 h)
    | rol l =>
      rw [rv_rol] at r
      obtain ⟨a, xs, rfl, h1, h2⟩ := r
      have e : (l.mapM (pyD n M)).map PyData.list = some x := e
      cases h : l.mapM (pyD n M) with
      | none => rw [h] at e; cases e
      | some ys => rw [h] at e; cases e; exact .lst h1.sq (all l xs ys h2 h)
    | ref i =>
      rw [rv_ref] at r
      obtain ⟨a, ha, rfl⟩ := r
      cases hm : M[i]? with
      | none => simp only [pyD, hm] at e; cases e
      | some o =>
        cases o with
        | lst l =>
          simp only [pyD, hm] at e
          obtain ⟨xs, q1, q2⟩ := rh.at hm ha
          cases h : l.mapM (pyD n M) with
          | none => rw [h] at e; cases e
          | some ys => rw [h] at e; cases e; exact .lst (SqL.of q1) (all l xs ys q2 h)
        | dic l => simp only [pyD, hm] at e; cases e
        | ins c fs => simp only [pyD, hm] at e; cases e
def eqD (M : Hm) (d e : MV) : Option Bool := match pyD 60 M d, pyD 60 M e with
  | some x, some y => if SeqAt.shaped x && SeqAt.shaped y then some (PyData.eqv x y) else none
  | _, _ => none
/-- == of values -/
def eqM (M : Hm) : MV → MV → Option Bool
  | .int i, .int j => some (decide (i = j))
  | .str s, .str t => some (decide (s = t))
  | .bl s, .bl t => some (decide (s = t))
  | .int _, .str _ => some false
  | .str _, .int _ => some false
  | .non, .non => some true
  | d, e => eqD M d e
def fEqG (g : Bool → Bool) : MV → MV → Hm → R MV := fun d e M => match eqM M d e with
  | some b => .ok (.bl (g b)) M
  | none => .bad
abbrev fEq := fEqG id
abbrev fNe := fEqG not
theorem eq_dp {C : Cfg} {ρ : List Addr} {H : Hp} {M : Hm} (rh : RH C ρ H M) {d e : MV} {x y : V} {b : Bool} (rx : RV C.K H ρ d x) (ry : RV C.K H ρ e y) (h : eqM M d e = some b) :
    (scal x y = true ∧ b = decide (x = y)) ∨ ∃ p q, Dp C.K H x p ∧ Dp C.K H y q ∧ SeqAt.shaped p = true ∧ SeqAt.shaped q = true ∧ b = PyData.eqv p q := by
  unfold eqM at h
  split at h
  · rw [rv_int] at rx ry; subst rx; subst ry
    cases h
    exact .inl ⟨rfl, by rw [dec_int, Bool.beq_eq_decide_eq]⟩
  · rw [rv_str] at rx ry; subst rx; subst ry
    cases h
    refine .inl ⟨rfl, ?_⟩
    rw [dec_str, Bool.beq_eq_decide_eq]
    exact decide_eq_decide.mpr ⟨fun e => by rw [e], fun e => T_inj e⟩
  · rw [rv_bl] at rx ry; subst rx; subst ry
    cases h
    exact .inl ⟨rfl, by rw [dec_bl, Bool.beq_eq_decide_eq]⟩
  · rw [rv_int] at rx; rw [rv_str] at ry; subst rx; subst ry
    cases h
    exact .inl ⟨rfl, by simp⟩
  · rw [rv_str] at rx; rw [rv_int] at ry; subst rx; subst ry
    cases h
    exact .inl ⟨rfl, by simp⟩
  · rw [rv_non] at rx ry; subst rx; subst ry
    cases h
    exact .inl ⟨rfl, by simp⟩
  · unfold eqD at h
    split at h
    · rename_i p q h1 h2
      split at h
      · rename_i hs
        rw [Bool.and_eq_true] at hs
        cases h
        exact .inr ⟨p, q, dp_of rh _ _ _ _ rx h1, dp_of rh _ _ _ _ ry h2, hs.1, hs.2, rfl⟩
      · cases h
    · cases h
section
variable {X : Cx} {C : Cfg}
theorem op_eqM (hu : X.A.units + 64 < cLine) : OpR X (compareOp .Eq) (fun x y H Q => rEq x y H Q ∨ rEqD X.K x y H Q) := op_eq.or (op_eqD hu)
theorem op_neM (hu : X.A.units + 64 < cLine) : OpR X (compareOp .NotEq) (fun x y H Q => rNe x y H Q ∨ rNeD X.K x y H Q) := op_ne.or (op_neD hu)
theorem sim_eq : Sim2 C fEq (fun x y H Q => rEq x y H Q ∨ rEqD C.K x y H Q) := by
  intro ρ H M d e x y Q G rh rx ry p
  unfold fEq fEqG at p
  split at p
  · rename_i b h
    rcases eq_dp rh rx ry h with ⟨h1, h2⟩ | ⟨q, r, h1, h2, h3, h4, h5⟩
    · exact .inl ⟨h1, by rw [← h2]; exact p.val rh (rv_bl.mpr rfl)⟩
    · exact .inr ⟨q, r, h1, h2, h3, h4, by rw [← h5]; exact p.val rh (rv_bl.mpr rfl)⟩
  · exact p.elim
theorem sim_ne : Sim2 C fNe (fun x y H Q => rNe x y H Q ∨ rNeD C.K x y H Q) := by
  intro ρ H M d e x y Q G rh rx ry p
  unfold fNe fEqG at p
  split at p
  · rename_i b h
    rcases eq_dp rh rx ry h with ⟨h1, h2⟩ | ⟨q, r, h1, h2, h3, h4, h5⟩
    · exact .inl ⟨h1, by rw [← h2]; exact p.val rh (rv_bl.mpr rfl)⟩
    · exact .inr ⟨q, r, h1, h2, h3, h4, by rw [← h5]; exact p.val rh (rv_bl.mpr rfl)⟩
  · exact p.elim
end
end Mi
set_option maxRecDepth 100000
/-! Further operations: in, items, slices, built-ins, methods, what is walked. -/
namespace Mi
open PySem PySem.Spec PyProof.Rows L2
theorem T_one (c : Nat) : T [c] = ⟨#[c]⟩ := rfl
/-! ### in -/
def flatM : MV → Bool
  | .non => true | .bl _ => true | .int _ => true | .str _ => true
  | _ => false
/-- == of flat values -/
def eqF : MV → MV → Bool
  | .non, .non => true
  | .bl a, .bl b => a == b
  | .int a, .int b => a == b
  | .bl a, .int b => (if a then 1 else 0) == b
  | .int a, .bl b => a == (if b then 1 else 0)
  | .str a, .str b => decide (a = b)
  | _, _ => false
def inM (M : Hm) (x : MV) : MV → Option Bool
  | .str t => match x with
    | .str [c] => some (decide (c ∈ t))
    | _ => none
  | .tup l => if flatM x && l.all flatM then some (l.any fun y => eqF y x) else none
  | .ref i => match M[i]? with
    | some (.lst l) => if flatM x && l.all flatM then some (l.any fun y => eqF y x) else none
    | _ => none
  | .rol l => if flatM x && l.all flatM then some (l.any fun y => eqF y x) else none
  | _ => none
def fInG (g : Bool → Bool) : MV → MV → Hm → R MV := fun x y M => match inM M x y with
  | some b => .ok (.bl (g b)) M
  | none => .bad
abbrev fIn := fInG id
abbrev fNotIn := fInG not
theorem flat_of {K : PySem.W.Frag} {H : Hp} {ρ : List Addr} {d : MV} {v : V} (r : RV K H ρ d v) (h : flatM d = true) : flatV v = true := by
  cases d with
  | non => rw [rv_non] at r; subst r; rfl
  | bl b => rw [rv_bl] at r; subst r; rfl
  | int i => rw [rv_int] at r; subst r; rfl
  | str s => rw [rv_str] at r; subst r; rfl
  | _ => cases h
theorem eqF_of {K : PySem.W.Frag} {H : Hp} {ρ : List Addr} {d e : MV} {v w : V} (r : RV K H ρ d v) (r' : RV K H ρ e w) (h : flatM d = true) (h' : flatM e = true) : eqV v w = eqF d e := by
  cases d with
  | non =>
    rw [rv_non] at r; subst r
    cases e with
    | non => rw [rv_non] at r'; subst r'; rfl
    | bl b => rw [rv_bl] at r'; subst r'; rfl
    | int i => rw [rv_int] at r'; subst r'; rfl
    | str s => rw [rv_str] at r'; subst r'; rfl
    | _ => cases h'
  | bl b =>
    rw [rv_bl] at r; subst r
    cases e with
    | non => rw [rv_non] at r'; subst r'; rfl
    | bl b => rw [rv_bl] at r'; subst r'; rfl
    | int i => rw [rv_int] at r'; subst r'; rfl
    | str s => rw [rv_str] at r'; subst r'; rfl
    | _ => cases h'
  | int i =>
    rw [rv_int] at r; subst r
    cases e with
    | non => rw [rv_non] at r'; subst r'; rfl
    | bl b => rw [rv_bl] at r'; subst r'; rfl
    | int i => rw [rv_int] at r'; subst r'; rfl
    | str s => rw [rv_str] at r'; subst r'; rfl
    | _ => cases h'
  | str s =>
    rw [rv_str] at r; subst r
    cases e with
    | non => rw [rv_non] at r'; subst r'; rfl
    | bl b => rw [rv_bl] at r'; subst r'; rfl
    | int i => rw [rv_int] at r'; subst r'; rfl
    | str t =>
      rw [rv_str] at r'; subst r'
      show (T s == T t) = decide (s = t)
      rw [Bool.beq_eq_decide_eq]
      exact decide_eq_decide.mpr ⟨fun e => T_inj e, fun e => by rw [e]⟩
    | _ => cases h'
  | _ => cases h
theorem flats_of {K : PySem.W.Frag} {H : Hp} {ρ : List Addr} : ∀ {ds : List MV} {vs : List V}, RVs K H ρ ds vs → ds.all flatM = true → vs.all flatV = true
  | [], _, r, _ => by rw [rvs_nil] at r; subst r; rfl
  | d :: ds, _, r, h => by
    rw [rvs_cons] at r
    obtain ⟨v, t, rfl, r1, r2⟩ := r
    rw [List.all_cons, Bool.and_eq_true] at h
    rw [List.all_cons, flat_of r1 h.1, flats_of r2 h.2]
    rfl
theorem inV_of {K : PySem.W.Frag} {H : Hp} {ρ : List Addr} {x : MV} {v : V} (rx : RV K H ρ x v) (hx : flatM x = true) : ∀ {ds : List MV} {vs : List V}, RVs K H ρ ds vs → ds.all flatM = true → inV v vs = ds.any fun y => eqF y x
  | [], _, r, _ => by rw [rvs_nil] at r; subst r; rfl
  | d :: ds, _, r, h => by
    rw [rvs_cons] at r
    obtain ⟨w, t, rfl, r1, r2⟩ := r
    rw [List.all_cons, Bool.and_eq_true] at h
    show ((w :: t).any fun y => eqV y v) = _
    rw [List.any_cons, List.any_cons, eqF_of r1 rx h.1 hx]
    have := inV_of rx hx r2 h.2
    unfold inV at this
    rw [this]
def rInM (K : PySem.W.Frag) (neg : Bool) : R2 := fun x y H Q => (∃ (c : Nat) (z : Str), x = .str ⟨#[c]⟩ ∧ y = .str z ∧ Q (.bl (if neg then !decide (c ∈ z.cps.toList) else decide (c ∈ z.cps.toList))) H) ∨ rIn K neg x y H Q
theorem op_inM {X : Cx} : OpR X (compareOp .In) (rInM X.K false) := (show OpR X (compareOp .In) (fun x y H Q => ∃ (c : Nat) (z : Str), x = .str ⟨#[c]⟩ ∧ y = .str z ∧ Q (.bl (decide (c ∈ z.cps.toList))) H) from op_in_sign).or op_in_seq
theorem op_notInM {X : Cx} : OpR X (compareOp .NotIn) (rInM X.K true) := (show OpR X (compareOp .NotIn) (fun x y H Q => ∃ (c : Nat) (z : Str), x = .str ⟨#[c]⟩ ∧ y = .str z ∧ Q (.bl (!decide (c ∈ z.cps.toList))) H) from op_notIn_sign).or op_notIn_seq
theorem sim_inG {C : Cfg} (neg : Bool) : Sim2 C (fInG (if neg then not else id)) (rInM C.K neg) := by
  intro ρ H M d e x y Q G rh rx ry p
  unfold fInG at p
  split at p
  · rename_i b hb
    have fin : ∀ {l : List MV} {xs : List V} {a : Addr}, y = .ref a → (SqL C.K H a xs ∨ SqT C.K H a xs) → RVs C.K H ρ l xs → (if flatM d && l.all flatM then some (l.any fun y => eqF y d) else none) = some b → rIn C.K neg x y H Q := fun {l xs a} hy hs hr h => by
      split at h
      · rename_i hf
        rw [Bool.and_eq_true] at hf
        cases h
        refine ⟨a, xs, hy, hs, flat_of rx hf.1, flats_of hr hf.2, ?_⟩
        rw [inV_of rx hf.1 hr hf.2]
        have q := p.val rh (rv_bl.mpr rfl)
        cases neg <;> exact q
      · cases h
    cases e with
    | str t =>
      rw [rv_str] at ry; subst ry
      unfold inM at hb
      cases d with
      | str s =>
        rw [rv_str] at rx; subst rx
        cases s with
        | nil => cases hb
        | cons c r =>
          cases r with
          | nil =>
            have hb : some (decide (c ∈ t)) = some b := hb
            cases hb
            refine .inl ⟨c, T t, rfl, rfl, ?_⟩
            rw [T_list]
            have q := p.val rh (rv_bl.mpr rfl)
            cases neg <;> exact q
          | cons _ _ => cases hb
      | _ => cases hb
    | tup l =>
      rw [rv_tup] at ry
      obtain ⟨a, xs, rfl, h1, h2⟩ := ry
      exact .inr (fin rfl (.inr h1) h2 hb)
    | rol l =>
      rw [rv_rol] at ry
      obtain ⟨a, xs, rfl, h1, h2⟩ := ry
      exact .inr (fin rfl (.inl h1.sq) h2 hb)
    | ref i =>
      rw [rv_ref] at ry
      obtain ⟨a, ha, rfl⟩ := ry
      unfold inM at hb
      cases hm : M[i]? with
      | none => simp only [hm] at hb; cases hb
      | some o =>
        cases o with
        | lst l =>
          simp only [hm] at hb
          obtain ⟨xs, q1, q2⟩ := rh.at hm ha
          exact .inr (fin rfl (.inl (SqL.of q1)) q2 hb)
        | dic l => simp only [hm] at hb; cases hb
        | ins c fs => simp only [hm] at hb; cases hb
    | _ => cases hb
  · exact p.elim
theorem sim_in {C : Cfg} : Sim2 C fIn (rInM C.K false) := sim_inG false
theorem sim_notIn {C : Cfg} : Sim2 C fNotIn (rInM C.K true) := sim_inG true

/-! ### items -/
theorem atI_rel {K : PySem.W.Frag} {H : Hp} {ρ : List Addr} {ds : List MV} {vs : List V} {i : Int} {d : MV} (r : RVs K H ρ ds vs) (h : atI ds i = some d) : ∃ v, atI vs i = some v ∧ RV K H ρ d v := by
  unfold atI at h ⊢
  rw [r.len]
  cases hj : ixN ds.length i with
  | none => rw [hj] at h; cases h
  | some j =>
    rw [hj] at h
    exact r.get h
def fIx : MV → MV → Hm → R MV
  | .tup l, .int i, M => match atI l i with
    | some d => .ok d M
    | none => .bad
  | .str s, .int i, M => if s.length ≤ SL then (match atI s i with
    | some c => .ok (.str [c]) M
    | none => .bad) else .bad
  | .ref k, .int i, M => match M[k]? with
    | some (.lst l) => (match atI l i with
      | some d => .ok d M
      | none => .bad)
    | _ => .bad
  | .rol l, .int i, M => match atI l i with
    | some d => .ok d M
    | none => .bad
  | _, _, _ => .bad
theorem sim_ix {C : Cfg} : Sim2 C fIx (rIx C.K) := by
  intro ρ H M d e x y Q G rh rx ry p
  unfold fIx at p
  split at p
  · rw [rv_tup] at rx; rw [rv_int] at ry; subst ry
    obtain ⟨a, xs, rfl, h1, h2⟩ := rx
    split at p
    · rename_i d' hd
      obtain ⟨v, e1, r⟩ := atI_rel h2 hd
      exact .inr (.inl ⟨a, xs, _, v, rfl, rfl, h1, e1, p.val rh r⟩)
    · exact p.elim
  · rw [rv_str] at rx; rw [rv_int] at ry; subst rx; subst ry
    split at p
    · rename_i hl
      split at p
      · rename_i c hc
        exact .inr (.inr ⟨_, _, c, rfl, rfl, by rw [T_len, sizeLine_eq]; exact hl, by rw [T_list]; exact hc, p.val rh (rv_str.mpr rfl)⟩)
      · exact p.elim
    · exact p.elim
  · rw [rv_ref] at rx; rw [rv_int] at ry; subst ry
    obtain ⟨a, ha, rfl⟩ := rx
    split at p
    · rename_i l hm
      obtain ⟨xs, q1, q2⟩ := rh.at hm ha
      split at p
      · rename_i d' hd
        obtain ⟨v, e1, r⟩ := atI_rel q2 hd
        exact .inl ⟨a, xs, _, v, rfl, rfl, SqL.of q1, e1, p.val rh r⟩
      · exact p.elim
    · exact p.elim
  · rw [rv_rol] at rx; rw [rv_int] at ry; subst ry
    obtain ⟨a, xs, rfl, h1, h2⟩ := rx
    split at p
    · rename_i d' hd
      obtain ⟨v, e1, r⟩ := atI_rel h2 hd
      exact .inl ⟨a, xs, _, v, rfl, rfl, h1.sq, e1, p.val rh r⟩
    · exact p.elim
  · exact p.elim
theorem m_ix {X : Cx} {C : Cfg} {W : WX} {a b : Expr} {a' b' : Fe} {pos : Pos} (hC : C.K = X.K) (ha : PE X a (tE C W a')) (hb : PE X b (tE C W b')) (hs : PlainIx b := by intro _ _; rfl) : PE X (.Subscript a b pos) (tE C W (eOp fIx a' b')) := by
  refine PE.imp (pe_ix ix_seq ha hb hs) fun σ H Q h => ?_
  obtain ⟨ρ, M, env, rh, re, p⟩ := h
  refine ⟨ρ, M, env, rh, re, p.bind.imp (fun d M1 ρ1 H1 e1 rh1 p2 v rv => ?_) (fun _ _ _ _ _ _ q => q)⟩
  exact ⟨ρ1, M1, env, rh1, re.mono e1, p2.bind.imp (fun d2 M2 ρ2 H2 e2 rh2 p3 w rw_ => by rw [← hC]; exact sim_ix ρ2 H2 M2 d d2 v w Q _ rh2 (rv.mono e2) rw_ p3) (fun _ _ _ _ _ _ q => q)⟩

/-! ### slices -/
def cut {α : Type} (xs : List α) (lo hi : Option Int) : List α := (xs.drop (HT.sIx xs.length 0 lo)).take (HT.sIx xs.length xs.length hi - HT.sIx xs.length 0 lo)
abbrev Fo := Env → Hm → R (Option Int)
def oNone : Fo := fun _ M => .ok none M
def oSome (e : Fe) : Fo := fun env M => (e env M).bind fun x M1 => match x with
  | .int i => .ok (some i) M1
  | _ => .bad
abbrev tO (C : Cfg) (W : WX) (f : Fo) : TO := tG C W (fun _ _ a b => b = a) f
def eSl (f : MV → Option Int → Option Int → Hm → R MV) (a : Fe) (lo hi : Fo) : Fe := fun env M => (a env M).bind fun x M1 => (lo env M1).bind fun l M2 => (hi env M2).bind fun u M3 => f x l u M3
def fSl : MV → Option Int → Option Int → Hm → R MV
  | .tup l, lo, hi, M => .ok (.tup (cut l lo hi)) M
  | .str s, lo, hi, M => if s.length ≤ SL then .ok (.str (cut s lo hi)) M else .bad
  | .ref k, lo, hi, M => match M[k]? with
    | some (.lst l) => .ok (.ref M.length) (M ++ [.lst (cut l lo hi)])
    | _ => .bad
  | .rol l, lo, hi, M => .ok (.ref M.length) (M ++ [.lst (cut l lo hi)])
  | _, _, _, _ => .bad
theorem cut_rel {K : PySem.W.Frag} {H : Hp} {ρ : List Addr} {ds : List MV} {vs : List V} {lo hi : Option Int} (r : RVs K H ρ ds vs) : RVs K H ρ (cut ds lo hi) (cutV vs lo hi) := by
  unfold cut cutV
  rw [r.len]
  exact (r.drop _).take _
theorem cut_str (s : Tx) (lo hi : Option Int) : cutS (T s) lo hi = T (cut s lo hi) := by
  unfold cutS cut T
  show Str.mk ((s.toArray.toList.drop (HT.sIx s.toArray.size 0 lo)).take (HT.sIx s.toArray.size s.toArray.size hi - HT.sIx s.toArray.size 0 lo)).toArray = _
  simp
section
variable {X : Cx} {C : Cfg} {W : WX}
theorem mo_none : PO X none (tO C W oNone) := ⟨fun pins s σ H Q I h => by
  obtain ⟨ρ, M, env, rh, re, p⟩ := h
  exact po_none.run pins s σ H Q I (p.now rh none rfl)⟩
theorem mo_some {e : Expr} {e' : Fe} (he : PE X e (tE C W e')) : PO X (some e) (tO C W (oSome e')) := ⟨fun pins s σ H Q I h => by
  refine (po_some he).run pins s σ H Q I ?_
  obtain ⟨ρ, M, env, rh, re, p⟩ := h
  refine ⟨ρ, M, env, rh, re, p.bind.imp (fun d M1 ρ1 H1 e1 rh1 p2 v rv => ?_) (fun _ _ _ _ _ _ q => q)⟩
  cases d with
  | int i =>
    rw [rv_int] at rv
    exact ⟨i, rv, p2.now rh1 _ rfl⟩
  | _ => exact p2.elim⟩
theorem m_slice {e : Expr} {lo hi : Option Expr} {e' : Fe} {lo' hi' : Fo} {p2 pos : Pos} (hC : C.K = X.K) (he : PE X e (tE C W e')) (hl : PO X lo (tO C W lo')) (hu : PO X hi (tO C W hi')) : PE X (.Subscript e (.Slice lo hi none p2) pos) (tE C W (eSl fSl e' lo' hi')) := by
  refine PE.imp (pe_slice ((sl_tupA (X := X)).or ((sl_str (X := X)).or (sl_list (X := X)))) he hl hu) fun σ H Q h => ?_
  obtain ⟨ρ, M, env, rh, re, p⟩ := h
  refine ⟨ρ, M, env, rh, re, p.bind.imp (fun d M1 ρ1 H1 e1 rh1 p2 x rx => ?_) (fun _ _ _ _ _ _ q => q)⟩
  refine ⟨ρ1, M1, env, rh1, re.mono e1, p2.bind.imp (fun l M2 ρ2 H2 e2 rh2 p3 l' hl' => ?_) (fun _ _ _ _ _ _ q => q)⟩
  subst hl'
  refine ⟨ρ2, M2, env, rh2, (re.mono e1).mono e2, p3.bind.imp (fun u M3 ρ3 H3 e3 rh3 p4 u' hu' => ?_) (fun _ _ _ _ _ _ q => q)⟩
  subst hu'
  have rx := (rx.mono e2).mono e3
  cases d with
  | tup ll =>
    rw [rv_tup] at rx
    obtain ⟨a, xs, rfl, h1, h2⟩ := rx
    have p4 : Post C ρ3 H3 (.ok (.tup (cut ll l' u')) M3) (Fv C Q) _ := p4
    refine .inl ⟨a, xs, rfl, by rw [← hC]; exact h1, fun hw => ?_, fun hw q hq => p4.newT rh3 (cut_rel h2) hq⟩
    have hc : cut ll l' u' = ll := by
      have e := h2.len
      unfold cut
      rw [← e, hw.1, hw.2]
      simp [e]
    rw [hc] at p4
    exact p4.val rh3 (rv_tup.mpr ⟨a, xs, rfl, h1, h2⟩)
  | str s =>
    rw [rv_str] at rx
    subst rx
    have p4 : Post C ρ3 H3 (if s.length ≤ SL then .ok (.str (cut s l' u')) M3 else .bad) (Fv C Q) _ := p4
    split at p4
    · rename_i hl
      refine .inr (.inl ⟨_, rfl, by rw [T_len, sizeLine_eq]; exact hl, ?_⟩)
      rw [cut_str]
      exact p4.val rh3 (rv_str.mpr rfl)
    · exact p4.elim
  | ref k =>
    rw [rv_ref] at rx
    obtain ⟨a, ha, rfl⟩ := rx
    have p4 : Post C ρ3 H3 (match M3[k]? with
      | some (.lst l) => .ok (.ref M3.length) (M3 ++ [.lst (cut l l' u')])
      | _ => .bad) (Fv C Q) _ := p4
    split at p4
    · rename_i l hm
      obtain ⟨xs, q1, q2⟩ := rh3.at hm ha
      exact .inr (.inr ⟨a, xs, rfl, SqL.of q1, fun q hq => p4.newL rh3 (cut_rel q2) hq⟩)
    · exact p4.elim
  | rol l =>
    rw [rv_rol] at rx
    obtain ⟨a, xs, rfl, h1, h2⟩ := rx
    have p4 : Post C ρ3 H3 (.ok (.ref M3.length) (M3 ++ [.lst (cut l l' u')])) (Fv C Q) _ := p4
    exact .inr (.inr ⟨a, xs, rfl, by rw [← hC]; exact h1.sq, fun q hq => p4.newL rh3 (cut_rel h2) hq⟩)
  | _ => exact p4.elim
/-- xs[::-1] of a list -/
def fRev : MV → Hm → R MV
  | .ref k, M => match M[k]? with
    | some (.lst l) => .ok (.ref M.length) (M ++ [.lst l.reverse])
    | _ => .bad
  | _, _ => .bad
theorem m_revL {e : Expr} {e' : Fe} {k : Nat} {p1 p2 p3 pos : Pos} (he : PE X e (tE C W e')) : PE X (.Subscript e (.Slice none none (some (.UnaryOp .USub (.Constant (.int 1) k p1) p2)) p3) pos) (tE C W (eUn fRev e')) := by
  refine PE.imp (pe_revL he) fun σ H Q h => ?_
  obtain ⟨ρ, M, env, rh, re, p⟩ := h
  refine ⟨ρ, M, env, rh, re, p.bind.imp (fun d M1 ρ1 H1 e1 rh1 p2 x rx => ?_) (fun _ _ _ _ _ _ q => q)⟩
  unfold fRev at p2
  split at p2
  · rw [rv_ref] at rx
    obtain ⟨a, ha, rfl⟩ := rx
    split at p2
    · rename_i l hm
      obtain ⟨xs, q1, q2⟩ := rh1.at hm ha
      exact ⟨a, xs, rfl, SqL.of q1, fun q hq => p2.newL rh1 q2.rev hq⟩
    · exact p2.elim
  · exact p2.elim
end
end Mi
set_option maxRecDepth 100000
/-! Built-ins and methods. -/
namespace Mi
open PySem PySem.Spec PyProof.Rows L2
section
variable {X : Cx} {C : Cfg} {W : WX}
/-- a built-in function by its name -/
theorem m_bif {x : Str} {p pos : Pos} {e : Expr} {es : List Expr} {id : String} {r : List V → Hp → VK → Prop} {f : List MV → Hm → R MV} {t' : Fa} (hc : CallR X (.builtin id) r) (hs : SimC C f r) (hm : X.mg x = none) (ha : PA X (e :: es) (tA C W t'))
    (hg : Gl X x := by rfl) (hv : bootBuiltins x = some (.builtin id) := by decide +kernel) (hn : x ≠ "__name__" := by decide) (hdb : (x == ("__debug__" : Str)) = false := by decide)
    (he : starEach (e :: es) X.env = (false, eval e X.env) :: starEach es X.env := by rfl) (hpl : (backTo pos (starEach es X.env)).any (·.1) = false := by rfl) : PE X (.Call (.Name x p) (e :: es) [] pos) (tE C W (eFn f t')) := by
  refine PE.imp (pe_callB hc hg hm hv ha hn hdb he hpl) fun σ H Q h => ?_
  obtain ⟨ρ, M, env, rh, re, p⟩ := h
  exact ⟨ρ, M, env, rh, re, p.bind.imp (fun ds M1 ρ1 H1 e1 rh1 p2 vs rvs => hs ρ1 H1 M1 ds vs Q _ rh1 rvs p2) (fun _ _ _ _ _ _ q => q)⟩
/-- a built-in type, called -/
theorem m_bty {x : Str} {p pos : Pos} {e : Expr} {es : List Expr} {id : String} {r : List V → Hp → VK → Prop} {f : List MV → Hm → R MV} {t' : Fa} (hc : CallR X (.type id) r) (hs : SimC C f r) (hm : X.mg x = none) (ha : PA X (e :: es) (tA C W t'))
    (hg : Gl X x := by rfl) (hv : bootBuiltins x = some (.type id) := by decide +kernel) (hn : x ≠ "__name__" := by decide) (hdb : (x == ("__debug__" : Str)) = false := by decide)
    (he : starEach (e :: es) X.env = (false, eval e X.env) :: starEach es X.env := by rfl) (hpl : (backTo pos (starEach es X.env)).any (·.1) = false := by rfl) : PE X (.Call (.Name x p) (e :: es) [] pos) (tE C W (eFn f t')) := by
  refine PE.imp (pe_callTy hc hg hm hv ha hn hdb he hpl) fun σ H Q h => ?_
  obtain ⟨ρ, M, env, rh, re, p⟩ := h
  exact ⟨ρ, M, env, rh, re, p.bind.imp (fun ds M1 ρ1 H1 e1 rh1 p2 vs rvs => hs ρ1 H1 M1 ds vs Q _ rh1 rvs p2) (fun _ _ _ _ _ _ q => q)⟩
/-- what a method's receiver is -/
inductive Ty where | str | list | dict | int
  deriving DecidableEq
def Ty.nm : Ty → String
  | .str => "str" | .list => "list" | .dict => "dict" | .int => "int"
def isTy (M : Hm) : Ty → MV → Bool
  | .str, .str _ => true
  | .int, .int _ => true
  | .list, .rol _ => true
  | .list, .ref i => (match M[i]? with | some (.lst _) => true | _ => false)
  | .dict, .ref i => (match M[i]? with | some (.dic _) => true | _ => false)
  | _, _ => false
theorem isTy_tyV {ρ : List Addr} {H : Hp} {M : Hm} {t : Ty} {d : MV} {v : V} (rh : RH C ρ H M) (r : RV C.K H ρ d v) (h : isTy M t d = true) : tyV C.K t.nm v H := by
  cases d with
  | str s => rw [rv_str] at r; subst r; cases t <;> first | rfl | cases h
  | int i => rw [rv_int] at r; subst r; cases t <;> first | rfl | cases h
  | rol l =>
    rw [rv_rol] at r
    obtain ⟨a, xs, rfl, h1, h2⟩ := r
    cases t <;> first | cases h | skip
    exact .inl ⟨rfl, xs, h1.sq⟩
  | ref i =>
    rw [rv_ref] at r
    obtain ⟨a, ha, rfl⟩ := r
    cases hm : M[i]? with
    | none => cases t <;> simp [isTy, hm] at h
    | some o =>
      cases o with
      | lst l =>
        obtain ⟨xs, q1, q2⟩ := rh.at hm ha
        cases t <;> first | (simp [isTy, hm] at h; done) | exact .inl ⟨rfl, xs, SqL.of q1⟩
      | dic l =>
        obtain ⟨ks, q1, q2⟩ := rh.at hm ha
        cases t <;> first | (simp [isTy, hm] at h; done) | exact .inr (.inr (.inl ⟨rfl, .inl ⟨ks, q1⟩⟩))
      | ins c fs => cases t <;> simp [isTy, hm] at h
  | _ => cases t <;> cases h
def eMet (ty : Ty) (f : MV → List MV → Hm → R MV) (o : Fe) (t : Fa) : Fe := fun env M => (o env M).bind fun x M1 => if isTy M1 ty x then (t env M1).bind fun xs M2 => f x xs M2 else .bad
theorem m_met {ty : Ty} {o e : Expr} {es : List Expr} {name : Str} {apos cpos : Pos} {id : String} {r : V → List V → Hp → VK → Prop} {f : MV → List MV → Hm → R MV} {o' : Fe} {t' : Fa} (hC : C.K = X.K) (pa : PlainAttrs ty.nm) (slot : Slot ty.nm name id) (hty : typeOf (.builtin id) = pure (.type "method_descriptor")) (hm : MtR X id r) (hs : SimM C f r)
    (ho : PE X o (tE C W o')) (ha : PA X (e :: es) (tA C W t'))
    (hbase : attributeBase o name X.env (eval o X.env) = eval o X.env := by rfl)
    (hfew : ((backTo cpos (starEach (e :: es) X.env)).all (fun x => !x.1) && (backToKw cpos (keywordEach [] X.env)).all (fun x => x.1.isSome)
      && decide ((e :: es).length + ([] : List Keyword).length + (if ([] : List Keyword).isEmpty then 0 else 1) < 30)) = true := by rfl)
    (hline : (apos.endLine == cpos.line) = true := by rfl) (hst : starEach (e :: es) X.env = (false, eval e X.env) :: starEach es X.env := by rfl) (hplain : (backTo cpos (starEach es X.env)).any (·.1) = false := by rfl) :
    PE X (.Call (.Attribute o name apos) (e :: es) [] cpos) (tE C W (eMet ty f o' t')) := by
  refine PE.imp (pe_bm pa slot hty hm ho ha hbase hfew hline hst hplain) fun σ H Q h => ?_
  obtain ⟨ρ, M, env, rh, re, p⟩ := h
  refine ⟨ρ, M, env, rh, re, p.bind.imp (fun d M1 ρ1 H1 e1 rh1 p2 v rv => ?_) (fun _ _ _ _ _ _ q => q)⟩
  split at p2
  · rename_i ht
    refine ⟨by rw [← hC]; exact isTy_tyV rh1 rv ht, ρ1, M1, env, rh1, re.mono e1, p2.bind.imp (fun ds M2 ρ2 H2 e2 rh2 p3 vs rvs => hs ρ2 H2 M2 d ds v vs Q _ rh2 (rv.mono e2) rvs p3) (fun _ _ _ _ _ _ q => q)⟩
  · exact p2.elim
theorem m_met0 {ty : Ty} {o : Expr} {name : Str} {apos cpos : Pos} {id : String} {r : V → List V → Hp → VK → Prop} {f : MV → List MV → Hm → R MV} {o' : Fe} (hC : C.K = X.K) (pa : PlainAttrs ty.nm) (slot : Slot ty.nm name id) (hty : typeOf (.builtin id) = pure (.type "method_descriptor")) (hm : MtR X id r) (hs : SimM C f r)
    (ho : PE X o (tE C W o')) (hbase : attributeBase o name X.env (eval o X.env) = eval o X.env := by rfl) (hline : (apos.endLine == cpos.line) = true := by rfl) :
    PE X (.Call (.Attribute o name apos) [] [] cpos) (tE C W (eMet ty f o' aNil)) := by
  refine PE.imp (pe_bm0 pa slot hty hm ho hbase hline) fun σ H Q h => ?_
  obtain ⟨ρ, M, env, rh, re, p⟩ := h
  refine ⟨ρ, M, env, rh, re, p.bind.imp (fun d M1 ρ1 H1 e1 rh1 p2 v rv => ?_) (fun _ _ _ _ _ _ q => q)⟩
  split at p2
  · rename_i ht
    exact ⟨by rw [← hC]; exact isTy_tyV rh1 rv ht, hs ρ1 H1 M1 d [] v [] Q _ rh1 rv RVs.nil p2⟩
  · exact p2.elim
end

/-! ### built-ins -/
theorem one_rv {K : PySem.W.Frag} {H : Hp} {ρ : List Addr} {d : MV} {vs : List V} (r : RVs K H ρ [d] vs) : ∃ v, vs = [v] ∧ RV K H ρ d v := by
  rw [rvs_cons] at r
  obtain ⟨v, t, rfl, r1, r2⟩ := r
  rw [rvs_nil] at r2
  subst r2
  exact ⟨v, rfl, r1⟩
theorem two_rv {K : PySem.W.Frag} {H : Hp} {ρ : List Addr} {d e : MV} {vs : List V} (r : RVs K H ρ [d, e] vs) : ∃ v w, vs = [v, w] ∧ RV K H ρ d v ∧ RV K H ρ e w := by
  rw [rvs_cons] at r
  obtain ⟨v, t, rfl, r1, r2⟩ := r
  obtain ⟨w, rfl, r3⟩ := one_rv r2
  exact ⟨v, w, rfl, r1, r3⟩
def fLen : List MV → Hm → R MV
  | [.str s], M => if s.length ≤ SL then .ok (.int s.length) M else .bad
  | [.tup l], M => .ok (.int l.length) M
  | [.rol l], M => .ok (.int l.length) M
  | [.ref i], M => match M[i]? with
    | some (.lst l) => .ok (.int l.length) M
    | _ => .bad
  | _, _ => .bad
theorem sim_len {C : Cfg} : SimC C fLen (fun xs H Q => ∃ x n, xs = [x] ∧ LenV C.K x H n ∧ Q (.int n) H) := by
  intro ρ H M ds xs Q G rh rx p
  unfold fLen at p
  split at p
  · obtain ⟨v, rfl, r⟩ := one_rv rx
    rw [rv_str] at r
    subst r
    split at p
    · rename_i hl
      exact ⟨_, _, rfl, ⟨by rw [T_len, sizeLine_eq]; exact hl, rfl⟩, by rw [T_len]; exact p.val rh (rv_int.mpr rfl)⟩
    · exact p.elim
  · obtain ⟨v, rfl, r⟩ := one_rv rx
    rw [rv_tup] at r
    obtain ⟨a, ys, rfl, h1, h2⟩ := r
    exact ⟨_, ys.length, rfl, .inr ⟨ys, h1, rfl⟩, by rw [h2.len]; exact p.val rh (rv_int.mpr rfl)⟩
  · obtain ⟨v, rfl, r⟩ := one_rv rx
    rw [rv_rol] at r
    obtain ⟨a, ys, rfl, h1, h2⟩ := r
    exact ⟨_, ys.length, rfl, .inl ⟨ys, h1.sq, rfl⟩, by rw [h2.len]; exact p.val rh (rv_int.mpr rfl)⟩
  · obtain ⟨v, rfl, r⟩ := one_rv rx
    rw [rv_ref] at r
    obtain ⟨a, ha, rfl⟩ := r
    split at p
    · rename_i l hm
      obtain ⟨ys, q1, q2⟩ := rh.at hm ha
      exact ⟨_, ys.length, rfl, .inl ⟨ys, SqL.of q1, rfl⟩, by rw [q2.len]; exact p.val rh (rv_int.mpr rfl)⟩
    · exact p.elim
  · exact p.elim
/-- the signs of a number -/
def numT (i : Int) : Tx := if i < 0 then 45 :: TL.numL i.natAbs else TL.numL i.natAbs
theorem num_T (i : Int) : (toString i : Str) = T (numT i) := by
  have key : ∀ n : Nat, Str.ofString (toString ((n : Nat) : Int)) = T (TL.numL n) := fun n => by
    have h := PySem.W.KIN.signs_num n
    cases q : Str.ofString (toString ((n : Nat) : Int)) with
    | mk cps =>
      rw [q] at h
      show Str.mk cps = Str.mk _
      congr 1
      have h : cps.toList = TL.numL n := h
      rw [← h]
  cases i with
  | ofNat n =>
    have h : ¬ ((Int.ofNat n) < 0) := by simp
    unfold numT
    rw [if_neg h]
    exact key n
  | negSucc n =>
    have h : (Int.negSucc n) < 0 := Int.negSucc_lt_zero n
    unfold numT
    rw [if_pos h]
    show Str.ofString (toString (Int.negSucc n)) = _
    have e1 : (toString (Int.negSucc n)) = "-" ++ toString (((n + 1 : Nat)) : Int) := rfl
    rw [e1]
    have e2 : Str.ofString ("-" ++ toString (((n + 1 : Nat)) : Int)) = T [45] ++ Str.ofString (toString (((n + 1 : Nat)) : Int)) := by
      rw [Str.ofString_eq_toList, Str.ofString_eq_toList]
      show Str.mk _ = Str.mk ([45].toArray ++ _)
      congr 1
      simp
    rw [e2, key, T_app]
    rfl
def fStr : List MV → Hm → R MV
  | [.int i], M => if i.natAbs.log2 < 1920 then .ok (.str (numT i)) M else .bad
  | _, _ => .bad
theorem sim_str {C : Cfg} : SimC C fStr (fun xs H Q => ∃ i : Int, xs = [.int i] ∧ i.natAbs.log2 < 1920 ∧ Q (.str (toString i)) H) := by
  intro ρ H M ds xs Q G rh rx p
  unfold fStr at p
  split at p
  · obtain ⟨v, rfl, r⟩ := one_rv rx
    rw [rv_int] at r
    subst r
    split at p
    · rename_i i hl
      refine ⟨_, rfl, hl, ?_⟩
      rw [num_T]
      exact p.val rh (rv_str.mpr rfl)
    · exact p.elim
  · exact p.elim
def allDig (s : Tx) : Bool := s.all fun c => decide (48 ≤ c) && decide (c ≤ 57)
def fIntOf : List MV → Hm → R MV
  | [.int i], M => .ok (.int i) M
  | [.bl b], M => .ok (.int (if b then 1 else 0)) M
  | [.str s], M => if allDig s && !s.isEmpty && decide (s.length ≤ 640) then .ok (.int (NumText.digitsVal s : Nat)) M else .bad
  | _, _ => .bad
abbrev rIntOf : List V → Hp → VK → Prop := fun xs H Q => ((∃ i, xs = [.int i] ∧ Q (.int i) H) ∨ ∃ k, xs = [.bl k] ∧ Q (.int (if k then 1 else 0)) H) ∨ ∃ a n, xs = [.str a] ∧ PySem.intText? a = some n ∧ a.length ≤ 640 ∧ Q (.int n) H
theorem call_intOf {X : Cx} : CallR X (.type "int") rIntOf := call_int1.or call_int_str
theorem sim_intOf {C : Cfg} : SimC C fIntOf rIntOf := by
  intro ρ H M ds xs Q G rh rx p
  unfold fIntOf at p
  split at p
  · obtain ⟨v, rfl, r⟩ := one_rv rx
    rw [rv_int] at r
    subst r
    exact .inl (.inl ⟨_, rfl, p.val rh (rv_int.mpr rfl)⟩)
  · obtain ⟨v, rfl, r⟩ := one_rv rx
    rw [rv_bl] at r
    subst r
    exact .inl (.inr ⟨_, rfl, p.val rh (rv_int.mpr rfl)⟩)
  · obtain ⟨v, rfl, r⟩ := one_rv rx
    rw [rv_str] at r
    subst r
    split at p
    · rename_i s hl
      simp only [Bool.and_eq_true, decide_eq_true_eq, Bool.not_eq_true'] at hl
      obtain ⟨⟨h1, h2⟩, h3⟩ := hl
      have hd : NumText.AllDigits s := fun c hc => by
        have := List.all_eq_true.mp h1 c hc
        simpa using this
      refine .inr ⟨_, _, rfl, PySem.intText_digits (x := T s) (by rw [T_list]; exact hd) ?_ (by rw [T_len]; omega), by rw [T_len]; exact h3, ?_⟩
      · rw [T_list]; intro e; rw [e] at h2; cases h2
      · rw [T_list]; exact p.val rh (rv_int.mpr rfl)
    · exact p.elim
  · exact p.elim
def fAbs : List MV → Hm → R MV
  | [.int i], M => .ok (.int (if i < 0 then -i else i)) M
  | _, _ => .bad
theorem sim_abs {C : Cfg} : SimC C fAbs (fun xs H Q => ∃ i, xs = [.int i] ∧ Q (.int (if i < 0 then -i else i)) H) := by
  intro ρ H M ds xs Q G rh rx p
  unfold fAbs at p
  split at p
  · obtain ⟨v, rfl, r⟩ := one_rv rx
    rw [rv_int] at r
    subst r
    exact ⟨_, rfl, p.val rh (rv_int.mpr rfl)⟩
  · exact p.elim
def fOrd : List MV → Hm → R MV
  | [.str [c]], M => .ok (.int (c : Nat)) M
  | _, _ => .bad
theorem sim_ord {C : Cfg} : SimC C fOrd (fun xs H Q => ∃ x : Str, xs = [.str x] ∧ x.length = 1 ∧ Q (.int (x.cps.getD 0 0 : Nat)) H) := by
  intro ρ H M ds xs Q G rh rx p
  unfold fOrd at p
  split at p
  · obtain ⟨v, rfl, r⟩ := one_rv rx
    rw [rv_str] at r
    subst r
    exact ⟨_, rfl, rfl, p.val rh (rv_int.mpr rfl)⟩
  · exact p.elim
/-- tuple(x), list(x) -/
def fTuple : List MV → Hm → R MV
  | [.tup l], M => .ok (.tup l) M
  | [.rol l], M => .ok (.tup l) M
  | [.ref i], M => match M[i]? with
    | some (.lst l) => .ok (.tup l) M
    | _ => .bad
  | _, _ => .bad
theorem sim_tuple {C : Cfg} : SimC C fTuple (fun xs H Q => ∃ p ys, xs = [.ref p] ∧ ((SqL C.K H p ys ∧ ∀ l, H l = none → Q (.ref l) (upd H l (.tup ys))) ∨ (SqT C.K H p ys ∧ Q (.ref p) H))) := by
  intro ρ H M ds xs Q G rh rx p
  unfold fTuple at p
  split at p
  · obtain ⟨v, rfl, r⟩ := one_rv rx
    rw [rv_tup] at r
    obtain ⟨a, ys, rfl, h1, h2⟩ := r
    exact ⟨a, ys, rfl, .inr ⟨h1, p.val rh (rv_tup.mpr ⟨a, ys, rfl, h1, h2⟩)⟩⟩
  · obtain ⟨v, rfl, r⟩ := one_rv rx
    rw [rv_rol] at r
    obtain ⟨a, ys, rfl, h1, h2⟩ := r
    exact ⟨a, ys, rfl, .inl ⟨h1.sq, fun l hl => p.newT rh h2 hl⟩⟩
  · obtain ⟨v, rfl, r⟩ := one_rv rx
    rw [rv_ref] at r
    obtain ⟨a, ha, rfl⟩ := r
    split at p
    · rename_i l hm
      obtain ⟨ys, q1, q2⟩ := rh.at hm ha
      exact ⟨a, ys, rfl, .inl ⟨SqL.of q1, fun l hl => p.newT rh q2 hl⟩⟩
    · exact p.elim
  · exact p.elim
def fList : List MV → Hm → R MV
  | [.tup l], M => .ok (.ref M.length) (M ++ [.lst l])
  | [.rol l], M => .ok (.ref M.length) (M ++ [.lst l])
  | [.ref i], M => match M[i]? with
    | some (.lst l) => .ok (.ref M.length) (M ++ [.lst l])
    | _ => .bad
  | _, _ => .bad
theorem sim_list {C : Cfg} : SimC C fList (fun xs H Q => ∃ p ys, xs = [.ref p] ∧ (SqL C.K H p ys ∨ SqT C.K H p ys) ∧ ∀ l, H l = none → Q (.ref l) (upd H l (.lst ys))) := by
  intro ρ H M ds xs Q G rh rx p
  unfold fList at p
  split at p
  · obtain ⟨v, rfl, r⟩ := one_rv rx
    rw [rv_tup] at r
    obtain ⟨a, ys, rfl, h1, h2⟩ := r
    exact ⟨a, ys, rfl, .inr h1, fun l hl => p.newL rh h2 hl⟩
  · obtain ⟨v, rfl, r⟩ := one_rv rx
    rw [rv_rol] at r
    obtain ⟨a, ys, rfl, h1, h2⟩ := r
    exact ⟨a, ys, rfl, .inl h1.sq, fun l hl => p.newL rh h2 hl⟩
  · obtain ⟨v, rfl, r⟩ := one_rv rx
    rw [rv_ref] at r
    obtain ⟨a, ha, rfl⟩ := r
    split at p
    · rename_i l hm
      obtain ⟨ys, q1, q2⟩ := rh.at hm ha
      exact ⟨a, ys, rfl, .inl (SqL.of q1), fun l hl => p.newL rh q2 hl⟩
    · exact p.elim
  · exact p.elim
/-- divmod(n, k) -/
def fDivmod : List MV → Hm → R MV
  | [.int i, .int j], M => if cDiv i j then .ok (.tup [.int (i / j), .int (i % j)]) M else .bad
  | _, _ => .bad
theorem sim_divmod {C : Cfg} : SimC C fDivmod (fun xs H Q => ∃ i j, xs = [.int i, .int j] ∧ CDivP i j ∧ ∀ p, H p = none → Q (.ref p) (upd H p (.tup [.int (i / j), .int (i % j)]))) := by
  intro ρ H M ds xs Q G rh rx p
  unfold fDivmod at p
  split at p
  · obtain ⟨v, w, rfl, r1, r2⟩ := two_rv rx
    rw [rv_int] at r1 r2
    subst r1; subst r2
    split at p
    · rename_i i j h
      unfold cDiv at h
      rw [Bool.and_eq_true, decide_eq_true_eq, decide_eq_true_eq] at h
      exact ⟨_, _, rfl, ⟨h.1, PyProof.noPylong_of_log2 h.2⟩, fun l hl => p.newT rh (RVs.cons (rv_int.mpr rfl) (RVs.cons (rv_int.mpr rfl) RVs.nil)) hl⟩
    · exact p.elim
  · exact p.elim
/-- all(xs), any(xs) of bools -/
def boolsOf (l : List MV) : Option (List Bool) := l.mapM fun d => match d with
  | .bl b => some b
  | _ => none
def fAllG (g : List Bool → Bool) : List MV → Hm → R MV
  | [.ref i], M => match M[i]? with
    | some (.lst l) => (match boolsOf l with
      | some bs => .ok (.bl (g bs)) M
      | none => .bad)
    | _ => .bad
  | _, _ => .bad
theorem bools_rv {K : PySem.W.Frag} {H : Hp} {ρ : List Addr} : ∀ {l : List MV} {vs : List V} {bs : List Bool}, RVs K H ρ l vs → boolsOf l = some bs → vs = bs.map V.bl
  | [], vs, bs, r, h => by
    rw [rvs_nil] at r
    subst r
    cases h
    rfl
  | d :: l, vs, bs, r, h => by
    rw [rvs_cons] at r
    obtain ⟨v, t, rfl, r1, r2⟩ := r
    unfold boolsOf at h
    rw [List.mapM_cons] at h
    cases d with
    | bl b =>
      rw [rv_bl] at r1
      subst r1
      cases e : boolsOf l with
      | none => unfold boolsOf at e; simp only [e] at h; cases h
      | some cs =>
        have e' := e
        unfold boolsOf at e
        simp only [e] at h
        cases h
        rw [bools_rv r2 e']
        rfl
    | _ => cases h
theorem sim_allG {C : Cfg} {g : List Bool → Bool} : SimC C (fAllG g) (fun vs H Q => ∃ (a : Addr) (bs : List Bool), vs = [V.ref a] ∧ SqL C.K H a (bs.map V.bl) ∧ Q (.bl (g bs)) H) := by
  intro ρ H M ds xs Q G rh rx p
  unfold fAllG at p
  split at p
  · obtain ⟨v, rfl, r⟩ := one_rv rx
    rw [rv_ref] at r
    obtain ⟨a, ha, rfl⟩ := r
    split at p
    · rename_i l hm
      obtain ⟨ys, q1, q2⟩ := rh.at hm ha
      split at p
      · rename_i bs hb
        exact ⟨a, bs, rfl, by rw [← bools_rv q2 hb]; exact SqL.of q1, p.val rh (rv_bl.mpr rfl)⟩
      · exact p.elim
    · exact p.elim
  · exact p.elim
abbrev fAll := fAllG fun bs => bs.all id
abbrev fAny := fAllG fun bs => bs.any id

/-! ### isinstance -/
def tyN (M : Hm) : MV → Option String
  | .non => some "NoneType"
  | .bl _ => some "bool"
  | .int _ => some "int"
  | .str _ => some "str"
  | .tup _ => some "tuple"
  | .rol _ => some "list"
  | .ref i => match M[i]? with
    | some (.lst _) => some "list"
    | some (.dic _) => some "dict"
    | _ => none
def fIsi (c : String) : List MV → Hm → R MV
  | [d], M => match tyN M d with
    | some t => (match kitB t c with
      | some b => .ok (.bl b) M
      | none => .bad)
    | none => .bad
  | _, _ => .bad
theorem tyN_ok {C : Cfg} {ρ : List Addr} {H : Hp} {M : Hm} {d : MV} {v : V} {t : String} (rh : RH C ρ H M) (r : RV C.K H ρ d v) (h : tyN M d = some t) : TyX C.K H v (.type t) := by
  cases d with
  | non => rw [rv_non] at r; subst r; cases h; exact .base .non
  | bl b => rw [rv_bl] at r; subst r; cases h; exact .base (.bl b)
  | int i => rw [rv_int] at r; subst r; cases h; exact .base (.int i)
  | str s => rw [rv_str] at r; subst r; cases h; exact .base (.str _)
  | tup l =>
    rw [rv_tup] at r
    obtain ⟨a, xs, rfl, h1, h2⟩ := r
    cases h
    rcases h1 with (h1 | ⟨o, h1⟩) | ⟨o, its, n, hk, hc, _⟩
    · exact .base (.tup h1)
    · exact .fTuple h1
    · exact .kTuple hk hc
  | rol l =>
    rw [rv_rol] at r
    obtain ⟨a, xs, rfl, h1, h2⟩ := r
    cases h
    rcases h1 with ⟨o, h1⟩ | ⟨o, its, n, hk, hc, _⟩
    · exact .base (.frz h1)
    · exact .kList hk hc
  | ref i =>
    rw [rv_ref] at r
    obtain ⟨a, ha, rfl⟩ := r
    cases hm : M[i]? with
    | none => simp [tyN, hm] at h
    | some o =>
      cases o with
      | lst l =>
        obtain ⟨xs, q1, q2⟩ := rh.at hm ha
        simp [tyN, hm] at h
        subst h
        exact .base (.lst q1)
      | dic l =>
        obtain ⟨xs, q1, q2⟩ := rh.at hm ha
        simp [tyN, hm] at h
        subst h
        exact .base (.dK q1)
      | ins c fs => simp [tyN, hm] at h
section
variable {X : Cx} {C : Cfg} {W : WX}
/-- isinstance(e, T), T a built-in type -/
theorem m_isi {c : String} {cx : Str} {e : Expr} {e' : Fe} {p p2 pos : Pos} (hC : C.K = X.K) (he : PE X e (tE C W e')) (hm : X.mg "isinstance" = none) (hmc : X.mg cx = none) (hbc : bootBuiltins cx = some (.type c) := by decide +kernel)
    (hg : Gl X "isinstance" := by rfl) (hgc : Gl X cx := by rfl) (hn : cx ≠ "__name__" := by decide) (hdb : (cx == ("__debug__" : Str)) = false := by decide)
    (hst : starEach [e, .Name cx p2] X.env = (false, eval e X.env) :: starEach [.Name cx p2] X.env := by rfl) (hpl : (backTo pos (starEach [.Name cx p2] X.env)).any (·.1) = false := by rfl) :
    PE X (.Call (.Name "isinstance" p) [e, .Name cx p2] [] pos) (tE C W (eFn (fIsi c) (aCons e' aNil))) := by
  have hc : PE X (.Name cx p2) (tC (.ty c)) := pe_bltn hgc hmc hbc rfl hn hdb
  refine PE.imp (pe_callB (X := X) call_isi hg hm (by decide +kernel) (pa_cons he (pa_cons hc pa_nil) hst) (by decide) (by decide) hst hpl) fun σ H Q h => ?_
  obtain ⟨ρ, M, env, rh, re, p⟩ := h
  have p := p.bind.bind
  refine ⟨ρ, M, env, rh, re, p.imp (fun d M1 ρ1 H1 e1 rh1 p2 v rv => ?_) (fun _ _ _ _ _ _ q => q)⟩
  have p3 : Post C ρ1 H1 (match tyN M1 d with
    | some t => (match kitB t c with
      | some b => .ok (.bl b) M1
      | none => .bad)
    | none => .bad) (Fv C Q) _ := (p2.bind.now rh1).now rh1
  split at p3
  · rename_i t ht
    split at p3
    · rename_i b hb
      exact ⟨v, .ty c, _, _, b, rfl, .ty c, by rw [← hC]; exact tyN_ok rh1 rv ht, kit_ty hb, p3.val rh1 (rv_bl.mpr rfl)⟩
    · exact p3.elim
  · exact p3.elim
end

/-! ### methods -/
def fAppend : MV → List MV → Hm → R MV
  | .ref i, [d], M => match M[i]? with
    | some (.lst l) => if l.length < SL then .ok .non (M.set i (.lst (l ++ [d]))) else .bad
    | _ => .bad
  | _, _, _ => .bad
theorem sim_append {C : Cfg} : SimM C fAppend rAppend := by
  intro ρ H M d ds x xs Q G rh rx rxs p
  unfold fAppend at p
  split at p
  · obtain ⟨v, rfl, r⟩ := one_rv rxs
    rw [rv_ref] at rx
    obtain ⟨a, ha, rfl⟩ := rx
    split at p
    · rename_i l hm
      obtain ⟨ys, q1, q2⟩ := rh.at hm ha
      split at p
      · rename_i hl
        exact ⟨a, ys, v, rfl, rfl, q1, by rw [q2.len, sizeLine_eq]; exact hl, p.setL rh ha (q2.snoc r) (rv_non.mpr rfl)⟩
      · exact p.elim
    · exact p.elim
  · exact p.elim
def fPop : MV → List MV → Hm → R MV
  | .ref i, [], M => match M[i]? with
    | some (.lst l) => (match l[l.length - 1]? with
      | some d => .ok d (M.set i (.lst l.dropLast))
      | none => .bad)
    | _ => .bad
  | _, _, _ => .bad
theorem RVs.dropLast {K : PySem.W.Frag} {H : Hp} {ρ : List Addr} {l : List MV} {vs : List V} (r : RVs K H ρ l vs) : RVs K H ρ l.dropLast vs.dropLast := by
  rw [List.dropLast_eq_take, List.dropLast_eq_take, r.len]
  exact r.take _
theorem sim_pop {C : Cfg} : SimM C fPop rPop := by
  intro ρ H M d ds x xs Q G rh rx rxs p
  unfold fPop at p
  split at p
  · rw [rvs_nil] at rxs
    subst rxs
    rw [rv_ref] at rx
    obtain ⟨a, ha, rfl⟩ := rx
    split at p
    · rename_i l hm
      obtain ⟨ys, q1, q2⟩ := rh.at hm ha
      split at p
      · rename_i d hd
        obtain ⟨v, e1, r⟩ := q2.get hd
        exact ⟨a, ys, v, rfl, rfl, q1, by rw [q2.len]; exact e1, p.setL rh ha q2.dropLast r⟩
      · exact p.elim
    · exact p.elim
  · exact p.elim
/-- texts of a list -/
def textsOf (l : List MV) : Option (List Tx) := l.mapM fun d => match d with
  | .str s => some s
  | _ => none
theorem texts_rv {K : PySem.W.Frag} {H : Hp} {ρ : List Addr} : ∀ {l : List MV} {vs : List V} {ss : List Tx}, RVs K H ρ l vs → textsOf l = some ss → vs = (ss.map T).map V.str
  | [], vs, ss, r, h => by
    rw [rvs_nil] at r
    subst r
    cases h
    rfl
  | d :: l, vs, ss, r, h => by
    rw [rvs_cons] at r
    obtain ⟨v, t, rfl, r1, r2⟩ := r
    unfold textsOf at h
    rw [List.mapM_cons] at h
    cases d with
    | str b =>
      rw [rv_str] at r1
      subst r1
      cases e : textsOf l with
      | none => unfold textsOf at e; simp only [e] at h; cases h
      | some cs =>
        have e' := e
        unfold textsOf at e
        simp only [e] at h
        cases h
        rw [texts_rv r2 e']
        rfl
    | _ => cases h
/-- sep.join(texts) -/
def joinT (sep : Tx) : List Tx → Tx
  | [] => []
  | [x] => x
  | x :: y :: r => x ++ (sep ++ joinT sep (y :: r))
theorem join_T (sep : Tx) : ∀ ss : List Tx, Txt.join (T sep) (ss.map T) = T (joinT sep ss) := by
  intro ss
  rw [TL.join_eq]
  induction ss with
  | nil => rfl
  | cons x r ih =>
    cases r with
    | nil => rfl
    | cons y r =>
      show T x ++ T sep ++ Str.join (T sep) ((y :: r).map T) = T (x ++ (sep ++ joinT sep (y :: r)))
      rw [ih, T_app, T_app, List.append_assoc]
def fJoin : MV → List MV → Hm → R MV
  | .str sep, [.ref i], M => match M[i]? with
    | some (.lst l) => (match textsOf l with
      | some ss => if (ss.map (·.length)).sum + ss.length * sep.length ≤ SL then .ok (.str (joinT sep ss)) M else .bad
      | none => .bad)
    | _ => .bad
  | _, _, _ => .bad
theorem sim_join {C : Cfg} : SimM C fJoin (fun x xs H Q => ∃ a p, ∃ ys : List Str, x = .str a ∧ xs = [.ref p] ∧ (SqL C.K H p (ys.map V.str) ∨ SqT C.K H p (ys.map V.str)) ∧ (ys.map (·.length)).sum + ys.length * a.length ≤ 16777216 ∧ Q (.str (Txt.join a ys)) H) := by
  intro ρ H M d ds x xs Q G rh rx rxs p
  unfold fJoin at p
  split at p
  · obtain ⟨v, rfl, r⟩ := one_rv rxs
    rw [rv_str] at rx
    subst rx
    rw [rv_ref] at r
    obtain ⟨a, ha, rfl⟩ := r
    split at p
    · rename_i l hm
      obtain ⟨ys, q1, q2⟩ := rh.at hm ha
      split at p
      · rename_i ss hs
        split at p
        · rename_i hl
          refine ⟨_, a, ss.map T, rfl, rfl, .inl ?_, ?_, ?_⟩
          · rw [← texts_rv q2 hs]; exact SqL.of q1
          · rw [List.map_map, List.length_map, T_len]
            have : ((fun x => Str.length x) ∘ T) = fun s : Tx => s.length := by
              funext s; exact T_len s
            rw [this]
            exact hl
          · rw [join_T]
            exact p.val rh (rv_str.mpr rfl)
        · exact p.elim
      · exact p.elim
    · exact p.elim
  · exact p.elim
/-- s.find(t, i) -/
def fFind3 : MV → List MV → Hm → R MV
  | .str a, [.str b, .int i], M => .ok (.int (Txt.find3 (T a) (T b) i)) M
  | _, _, _ => .bad
theorem sim_find3 {C : Cfg} : SimM C fFind3 (fun x xs H Q => ∃ (a b : Str) (i : Int), x = .str a ∧ xs = [.str b, .int i] ∧ Q (.int (Txt.find3 a b i)) H) := by
  intro ρ H M d ds x xs Q G rh rx rxs p
  unfold fFind3 at p
  split at p
  · obtain ⟨v, w, rfl, r1, r2⟩ := two_rv rxs
    rw [rv_str] at rx r1
    rw [rv_int] at r2
    subst rx; subst r1; subst r2
    exact ⟨_, _, _, rfl, rfl, p.val rh (rv_int.mpr rfl)⟩
  · exact p.elim
/-- no sign in front -/
def noSign : Tx → Bool
  | c :: _ => !(c == 43) && !(c == 45)
  | [] => true
/-- s.zfill(n), s without a sign in front -/
def fZfill : MV → List MV → Hm → R MV
  | .str a, [.int i], M => if PadOk i && noSign a then .ok (.str (List.replicate (i.toNat - a.length) 48 ++ a)) M else .bad
  | _, _, _ => .bad
theorem zfill_T {a : Tx} {i : Int} (h : noSign a = true) : Txt.zfill (T a) i = T (List.replicate (i.toNat - a.length) 48 ++ a) := by
  have hl := T_len a
  unfold Txt.zfill
  split
  · rename_i hi
    have : i.toNat - a.length = 0 := by rw [hl] at hi; omega
    rw [this]
    rfl
  · have key : PySem.zfilled (T a) (i.toNat - (T a).length) = Builtin.Str.padded (T a) (i.toNat - (T a).length) 0 48 := by
      unfold PySem.zfilled
      have e : (T a).cps[0]? = a[0]? := by
        show a.toArray[0]? = a[0]?
        simp
      rw [e]
      cases a with
      | nil => rfl
      | cons c r =>
        simp only [noSign, Bool.and_eq_true, Bool.not_eq_true', beq_eq_false_iff_ne] at h
        show (match (some c : Option Nat) with | some 43 | some 45 => _ | _ => _) = _
        split
        · rename_i q; cases q; exact absurd rfl h.1
        · rename_i q; cases q; exact absurd rfl h.2
        · rfl
    rw [key, hl]
    show Str.mk (Array.replicate _ 48 ++ a.toArray ++ Array.replicate 0 48) = Str.mk _
    congr 1
    simp
theorem sim_zfill {C : Cfg} : SimM C fZfill (fun x xs H Q => ∃ (a : Str) (i : Int), x = .str a ∧ xs = [.int i] ∧ PadOk i = true ∧ Q (.str (Txt.zfill a i)) H) := by
  intro ρ H M d ds x xs Q G rh rx rxs p
  unfold fZfill at p
  split at p
  · obtain ⟨v, rfl, r⟩ := one_rv rxs
    rw [rv_str] at rx
    rw [rv_int] at r
    subst rx; subst r
    split at p
    · rename_i a i h
      rw [Bool.and_eq_true] at h
      refine ⟨_, _, rfl, rfl, h.1, ?_⟩
      rw [zfill_T h.2]
      exact p.val rh (rv_str.mpr rfl)
    · exact p.elim
  · exact p.elim
/-! ### what is written -/
section
variable {X : Cx} {C : Cfg} {W : WX}
theorem m_globE {x : Str} {d : MV} {pos : Pos} (h : ∃ v u, X.mg x = some u ∧ RelV v u ∧ ∀ H ρ, RV C.K H ρ d v) (hg : Gl X x := by rfl) (hd : (x == ("__debug__" : Str)) = false := by decide) : PE X (.Name x pos) (tE C W (eC d)) := by
  obtain ⟨v, u, h1, h2, h3⟩ := h
  exact m_glob h1 h2 h3 hg hd
end

/-! ### what is walked: texts, ranges -/
section
variable {X : Cx} {C : Cfg} {W : WX}
theorem itok_str {s : Tx} {ρ : List Addr} {H : Hp} : ItOk C H ρ (nT (s.map fun c => .str [c])) (Its (T s)) := by
  refine ⟨fun ρ2 H2 M k e rh q => ?_, fun ρ2 H2 M k x e rh q => ?_, fun ρ2 H2 M k x v H' e rh q y => ?_⟩
  · have := List.getElem?_eq_none_iff.mp (Option.some.inj q)
    show (T s).cps.size ≤ k
    rw [show (T s).cps.size = s.length from T_len s]
    simpa using this
  · have := (List.getElem?_eq_some_iff.mp (Option.some.inj q)).1
    show k < (T s).cps.size
    rw [show (T s).cps.size = s.length from T_len s]
    simpa using this
  · obtain ⟨rfl, c, hc, rfl⟩ := y
    have q := Option.some.inj q
    rw [List.getElem?_map] at q
    have hc' : s[k]? = some c := by
      have : (T s).cps[k]? = s[k]? := by
        show s.toArray[k]? = s[k]?
        simp
      rw [← this]; exact hc
    rw [hc'] at q
    cases q
    exact ⟨Ext.refl, rh, rv_str.mpr rfl⟩
theorem mi_str {tg l : Expr} {l' : Fe} (hl : PE X l (tE C W l')) : PI X tg l (tIt C W (iS l')) := by
  refine PI.imp (pi_str hl) fun σ H Q h => ?_
  obtain ⟨ρ, M, env, rh, re, p⟩ := h
  refine ⟨ρ, M, env, rh, re, p.bind.imp (fun d M1 ρ1 H1 e1 rh1 p2 v rv => ?_) (fun _ _ _ _ _ _ q => q)⟩
  cases d with
  | str s =>
    rw [rv_str] at rv
    subst rv
    exact ⟨_, rfl, p2.now rh1 _ itok_str⟩
  | _ => exact p2.elim
theorem itok_rng {lo : Int} {n : Nat} {ρ : List Addr} {H : Hp} : ItOk C H ρ (nR lo 1 n) (Itr lo n) := by
  refine ⟨fun ρ2 H2 M k e rh q => ?_, fun ρ2 H2 M k x e rh q => ?_, fun ρ2 H2 M k x v H' e rh q y => ?_⟩
  · have q := Option.some.inj q
    by_cases h : k < n
    · rw [if_pos h] at q; cases q
    · exact Nat.le_of_not_lt h
  · have q := Option.some.inj q
    by_cases h : k < n
    · exact h
    · rw [if_neg h] at q; cases q
  · obtain ⟨rfl, rfl⟩ := y
    have q := Option.some.inj q
    by_cases h : k < n
    · rw [if_pos h] at q
      cases q
      exact ⟨Ext.refl, rh, rv_int.mpr (by rw [Int.mul_one])⟩
    · rw [if_neg h] at q; cases q
theorem itok_rngC {lo c : Int} {n : Nat} {ρ : List Addr} {H : Hp} : ItOk C H ρ (nR lo c n) (Itc lo c n) := by
  refine ⟨fun ρ2 H2 M k e rh q => ?_, fun ρ2 H2 M k x e rh q => ?_, fun ρ2 H2 M k x v H' e rh q y => ?_⟩
  · have q := Option.some.inj q
    by_cases h : k < n
    · rw [if_pos h] at q; cases q
    · exact Nat.le_of_not_lt h
  · have q := Option.some.inj q
    by_cases h : k < n
    · exact h
    · rw [if_neg h] at q; cases q
  · obtain ⟨rfl, rfl⟩ := y
    have q := Option.some.inj q
    by_cases h : k < n
    · rw [if_pos h] at q
      cases q
      exact ⟨Ext.refl, rh, rv_int.mpr rfl⟩
    · rw [if_neg h] at q; cases q
/-- within 2 ^ 62 -/
def in62 (i : Int) : Bool := decide (i.natAbs < 4611686018427387904)
theorem in62_le {i : Int} (h : in62 i = true) : -(2 ^ 62) ≤ i ∧ i < 2 ^ 62 := by
  have h' : i.natAbs < 4611686018427387904 := of_decide_eq_true h
  have e : (2 : Int) ^ 62 = 4611686018427387904 := by decide +kernel
  rw [e]
  omega
def rg1 : List MV → Hm → R (Ni × Nat)
  | [.int j], M => if in62 j then .ok (nR 0 1 j.toNat, j.toNat + 1) M else .bad
  | _, _ => .bad
def rg2 : List MV → Hm → R (Ni × Nat)
  | [.int i, .int j], M => if in62 i && in62 j then .ok (nR i 1 (j - i).toNat, (j - i).toNat + 1) M else .bad
  | _, _ => .bad
/-- range(i, j, c) -/
def rg3 : List MV → Hm → R (Ni × Nat)
  | [.int i, .int j, .int c], M => if decide (c ≠ 0) && decide (c.natAbs < 1073741824) && Builtin.Range.small i j c && decide (0 ≤ Builtin.Range.rangeSize i j c) then .ok (nR i c (Builtin.Range.rangeSize i j c).toNat, (Builtin.Range.rangeSize i j c).toNat + 1) M else .bad
  | _, _ => .bad
def iRg (f : List MV → Hm → R (Ni × Nat)) (t : Fa) : Fi := fun env M => (t env M).bind fun xs M1 => f xs M1
theorem mi_range1 {tg a : Expr} {t' : Fa} {p pos : Pos} (hm : X.mg "range" = none) (ha : PA X [a] (tA C W t')) (hg : Gl X "range" := by rfl) (hs : starEach [a] X.env = [(false, eval a X.env)] := by rfl) : PI X tg (.Call (.Name "range" p) [a] [] pos) (tIt C W (iRg rg1 t')) := by
  refine PI.imp (pi_range1 hg hm ha hs) fun σ H Q h => ?_
  obtain ⟨ρ, M, env, rh, re, p⟩ := h
  refine ⟨ρ, M, env, rh, re, p.bind.imp (fun ds M1 ρ1 H1 e1 rh1 p2 vs rvs => ?_) (fun _ _ _ _ _ _ q => q)⟩
  unfold rg1 at p2
  split at p2
  · obtain ⟨v, rfl, r⟩ := one_rv rvs
    rw [rv_int] at r
    subst r
    split at p2
    · rename_i j hj
      have hj := in62_le hj
      exact ⟨_, rfl, hj.1, hj.2, p2.now rh1 _ itok_rng⟩
    · exact p2.elim
  · exact p2.elim
theorem mi_range2 {tg a b : Expr} {t' : Fa} {p pos : Pos} (hm : X.mg "range" = none) (ha : PA X [a, b] (tA C W t')) (hg : Gl X "range" := by rfl) (hs : starEach [a, b] X.env = [(false, eval a X.env), (false, eval b X.env)] := by rfl) (hs2 : starEach [b] X.env = [(false, eval b X.env)] := by rfl) :
    PI X tg (.Call (.Name "range" p) [a, b] [] pos) (tIt C W (iRg rg2 t')) := by
  refine PI.imp (pi_range2 hg hm ha hs hs2) fun σ H Q h => ?_
  obtain ⟨ρ, M, env, rh, re, p⟩ := h
  refine ⟨ρ, M, env, rh, re, p.bind.imp (fun ds M1 ρ1 H1 e1 rh1 p2 vs rvs => ?_) (fun _ _ _ _ _ _ q => q)⟩
  unfold rg2 at p2
  split at p2
  · obtain ⟨v, w, rfl, r1, r2⟩ := two_rv rvs
    rw [rv_int] at r1 r2
    subst r1; subst r2
    split at p2
    · rename_i i j hj
      rw [Bool.and_eq_true] at hj
      have h1 := in62_le hj.1
      have h2 := in62_le hj.2
      exact ⟨_, _, rfl, ⟨h1.1, h1.2, h2.1, h2.2⟩, p2.now rh1 _ itok_rng⟩
    · exact p2.elim
  · exact p2.elim
theorem mi_range3 {tg a b c : Expr} {t' : Fa} {p pos : Pos} (hm : X.mg "range" = none) (ha : PA X [a, b, c] (tA C W t')) (hg : Gl X "range" := by rfl) (hs : starEach [a, b, c] X.env = (false, eval a X.env) :: starEach [b, c] X.env := by rfl) (hpl : (backTo pos (starEach [b, c] X.env)).any (·.1) = false := by rfl) :
    PI X tg (.Call (.Name "range" p) [a, b, c] [] pos) (tIt C W (iRg rg3 t')) := by
  refine PI.imp (pi_range3 hg hm ha hs hpl) fun σ H Q h => ?_
  obtain ⟨ρ, M, env, rh, re, p⟩ := h
  refine ⟨ρ, M, env, rh, re, p.bind.imp (fun ds M1 ρ1 H1 e1 rh1 p2 vs rvs => ?_) (fun _ _ _ _ _ _ q => q)⟩
  unfold rg3 at p2
  split at p2
  · rw [rvs_cons] at rvs
    obtain ⟨u, t, rfl, r0, rvs⟩ := rvs
    obtain ⟨v, w, rfl, r1, r2⟩ := two_rv rvs
    rw [rv_int] at r0 r1 r2
    subst r0; subst r1; subst r2
    split at p2
    · rename_i i j k hj
      simp only [Bool.and_eq_true, decide_eq_true_eq] at hj
      obtain ⟨⟨⟨a1, a2⟩, b1⟩, c1⟩ := hj
      exact ⟨_, _, _, (Builtin.Range.rangeSize i j k).toNat, rfl, ⟨a1, a2, b1, by omega⟩, p2.now rh1 _ itok_rngC⟩
    · exact p2.elim
  · exact p2.elim
end
end Mi
set_option maxRecDepth 100000
/-! A text's defs, all together; the law's end. -/
namespace Mi
open PySem PySem.Spec PyProof.Rows L2
/-- a def of the text, where it stands -/
structure Ent where
  x : Str
  q : Str
  st : Stmt
  N : List Str
  ps : List Str
  fa : Addr
  fd : FuncData
section
variable (C : Cfg) (P : Program) (w : World) (K : PySem.W.Frag) (mg : Str → Option Value) (base : Heap)
/-- what a body may lean on -/
structure Cl (ent : Nat → Option Ent) (A : Around) (G : Ga) : Prop where
  call : ∀ f e, ent f = some e → Call1 C P w K mg base A G f e.fa
  room : Room 2 A
abbrev Ctx (e : Ent) (cdv : Value) (A : Around) (outer : List PySem.Env) (s : Shared) (H : Hp) (E : XK) : Cx :=
  Bx P w K mg base e.N e.q (defScope e.st) e.fa cdv A outer s H E
/-- e's body does what d says -/
def BodyOk (ent : Nat → Option Ent) (e : Ent) (d : Df) : Prop := ∀ (G : Ga) (cdv : Value) (A : Around) (outer : List PySem.Env) (s : Shared) (H : Hp) (E : XK),
  Cl C P w K mg base ent (Ctx P w K mg base e cdv A outer s H E).A G → PSs (Ctx P w K mg base e cdv A outer s H E) (defBody e.st) (tS C (WB E) (d.bd G))
structure EntOk (ent : Nat → Option Ent) (e : Ent) (d : Df) : Prop where
  fn : Fun K e.x e.q e.st e.fa e.fd
  sc : FnScope e.N e.ps (defScope e.st)
  np : d.np = e.ps.length
  ns : d.ns = e.N.length
  bi : Binds K e.fd e.ps []
  bd : BodyOk C P w K mg base ent e d
end
section
variable {C : Cfg} {P : Program} {w : World} {K : PySem.W.Frag} {mg : Str → Option Value} {base : Heap}
theorem Call1.of {A : Around} {G : Ga} {f k : Nat} {e : Ent} (F : FnOk P w K mg base (L2.CX P w) k e.fa e.fd e.ps (spF C G e.ps.length f)) (hl : ∀ ds M, ds.length ≠ e.ps.length → G f ds M = .bad) (hr : Room (k + 1) A) (hb : Binds K e.fd e.ps []) (hk : PySem.W.keepIn K (.ref e.fa) = true) :
    Call1 C P w K mg base A G f e.fa := ⟨⟨e.ps.length, hl, k, e.fd, e.ps, F, hr, hb⟩, hk⟩
theorem run_np {tab : Nat → Option Df} {f : Nat} {d : Df} {np : Nat} (h : tab f = some d) (hn : d.np = np) : ∀ (n : Nat) (ds : List MV) (M : Hm), ds.length ≠ np → run tab n f ds M = .bad
  | 0, _, _, _ => rfl
  | n + 1, ds, M, hl => by
    show (match tab f with
      | some d => callD d (run tab n) ds M
      | none => .bad) = _
    rw [h]
    show callD d _ ds M = _
    unfold callD
    rw [if_neg (by rw [hn]; exact hl)]
theorem all_ok {ent : Nat → Option Ent} {tab : Nat → Option Df} (h : ∀ f e, ent f = some e → ∃ d, tab f = some d ∧ EntOk C P w K mg base ent e d) :
    ∀ n f e, ent f = some e → FnOk P w K mg base (L2.CX P w) (2 * n + 2) e.fa e.fd e.ps (spF C (run tab n) e.ps.length f)
  | 0, f, e, _ => ⟨fun vs H Q E q => q.1, fun A outer s H args us vs Q E hr he hb hv hs => by
      obtain ⟨_, ρ, M, ds, _, _, p⟩ := hs
      exact p.elim⟩
  | n + 1, f, e, he => by
    obtain ⟨d, hd, O⟩ := h f e he
    show FnOk P w K mg base (L2.CX P w) (2 * n + 3 + 1) e.fa e.fd e.ps (spF C (run tab (n + 1)) e.ps.length f)
    refine fn_mi (G := run tab n) (d := d) O.fn O.sc ⟨O.np, O.ns⟩ (fun ds M => ?_) fun cdv A outer s H E hr => ?_
    · show (match tab f with
        | some d => callD d (run tab n) ds M
        | none => .bad) = _
      rw [hd]
    · refine O.bd (run tab n) cdv A outer s H E ⟨fun g e' he' => ?_, hr.mono (by omega)⟩
      obtain ⟨d', hd', O'⟩ := h g e' he'
      exact Call1.of (all_ok h n g e' he') (run_np hd' O'.np n) hr O'.bi O'.fn.kp

/-! ### the law -/
/-- the law's promise: of any list of at most 63 numbers -/
def spLaw (K : PySem.W.Frag) : Sp := fun vs H Q _ => ∃ (a : Addr) (ns : List Int), vs = [.ref a] ∧ FzL K H a (ns.map V.int) ∧ ns.length ≤ 63 ∧ (∀ z ∈ ns, Builtin.Int.intBits z ≤ 1048576) ∧ ∀ H', Q (.bl true) H'
theorem rvs_ints {H : Hp} {ρ : List Addr} : ∀ ns : List Int, RVs K H ρ (ns.map MV.int) (ns.map V.int)
  | [] => by simp [RVs]
  | n :: ns => by
    rw [List.map_cons, List.map_cons]
    unfold RVs
    exact ⟨_, _, rfl, by unfold RV; rfl, rvs_ints ns⟩
/-- what a law has to keep -/
def Keeps (tab : Nat → Option Df) (n f : Nat) : Prop := ∀ ns : List Int, ns.length ≤ 63 → (∀ z ∈ ns, Builtin.Int.intBits z ≤ 1048576) → ∃ M, run tab n f [.rol (ns.map MV.int)] [] = .ok (.bl true) M
theorem law_ok {tab : Nat → Option Df} {n f k : Nat} {fa : Addr} {fd : FuncData} {x : Str} (hk : Keeps tab n f) (F : FnOk P w K mg base (L2.CX P w) k fa fd [x] (spF C (run tab n) 1 f)) (hK : C.K = K) : FnOk P w K mg base (L2.CX P w) k fa fd [x] (spLaw K) := by
  refine F.imp fun vs H Q E h => ?_
  obtain ⟨a, ns, rfl, hF, hl, hb, q⟩ := h
  obtain ⟨M, e⟩ := hk ns hl hb
  refine ⟨rfl, [], [], [.rol (ns.map MV.int)], ?_, ?_, ?_⟩
  · exact ⟨rfl, List.nodup_nil, fun i o h => by simp at h⟩
  · rw [hK]
    unfold RVs
    refine ⟨_, _, rfl, ?_, by unfold RVs; rfl⟩
    unfold RV
    exact ⟨a, _, rfl, hF, rvs_ints ns⟩
  · rw [e]
    intro ρ' H' e' rh' v rv
    have : v = .bl true := by unfold RV at rv; exact rv
    rw [this]
    exact q H'
theorem fz_of {H : Hp} {a : Addr} {xs : List V} (hO : Only H) (h : SqL K H a xs) : FzL K H a xs := by
  rcases h with h | h
  · rcases h with h | ⟨o, h⟩
    · rcases hO a with z | ⟨o, ys, z⟩
      · rw [z] at h; cases h
      · rw [z] at h; cases h
    · exact .inl ⟨o, h⟩
  · exact .inr h
/-- the law's end -/
theorem walk_mi {l : PySem.W.OpenLaw} {k : Nat} {q : Program} {loose : List Str} {XP : (Str → Option Value) → Heap → Prop} {YP : World → Heap → Prop} {d : DefRec} {K : Params → PySem.W.Frag} {x : Str}
    (hn : l.most = some 63) (hdf : d.params.defaults = []) (hr : Room k callerA)
    (hY : ∀ (w : World) (h : Heap), YP w h → (K w.params).In h)
    (F : ∀ (w : World) (mg : Str → Option Value) (fa : Addr) (h : Heap), (K w.params).In h → h.Ns mainGlobals mg → XP mg h → mg d.name = some (.ref fa) →
      ∃ fd : FuncData, (∀ (s : Shared) (u : Value), BindsTo s fd ⟨[u], []⟩ [(x, u)]) ∧
        ∀ base : Heap, (K w.params).In base → base.Ns mainGlobals mg → FnOk l.prog w (K w.params) mg base (L2.CX l.prog w) k fa fd [x] (spLaw (K w.params))) :
    PySem.W.WalkO q loose XP YP l.row.toRowW d [] (fun f vs => PySem.call f vs) := by
  refine Att.attach_callB hn hdf fun w s₀ s₁ mg mb fa o pm cd doc a vs ns G Y ho hd hcd hmg hobj hints hlen hbits hg => ?_
  have KX := hY w _ Y
  obtain ⟨fd, hb, hF⟩ := F w mg fa _ KX G.T.g G.X hmg
  refine law_call KX G.T.g G.T.b G.T.builtins G.T.nolimit hg hobj hints (Nat.le_trans hlen (by decide)) hr hF hb (fun H hO hS => ⟨a, ns, rfl, fz_of hO hS, hlen, hbits, fun _ => rfl⟩) fun H e s' => ?_
  exact fun ⟨_, _, _, _, _, _, _, _, _, _, _, _, z⟩ => z
end
end Mi
set_option maxRecDepth 100000
/-! Classes of one's own: fields, methods, instances made. -/
namespace Mi
open PySem PySem.Spec PyProof.Rows L2
/-- o.f, o of class c -/
def eFld (c : Nat) (f : Tx) (a : Fe) : Fe := fun env M => (a env M).bind fun x M1 => match x with
  | .ref i => (match M1[i]? with
    | some (.ins c' fs) => if c' = c then (match fs.lookup f with
      | some d => .ok d M1
      | none => .bad) else .bad
    | _ => .bad)
  | _ => .bad
theorem RF.lookup {K : PySem.W.Frag} {H : Hp} {ρ : List Addr} : ∀ {fs : List (Tx × MV)} {gs : List (Str × V)} {f : Tx}, RF K H ρ fs gs → (∀ d, fs.lookup f = some d → ∃ v, gs.lookup (T f) = some v ∧ RV K H ρ d v) ∧ (fs.lookup f = none → gs.lookup (T f) = none)
  | [], gs, f, h => by
    have h : gs = [] := h
    subst h
    exact ⟨fun d q => (by cases q), fun _ => rfl⟩
  | (g, e) :: fs, gs, f, h => by
    obtain ⟨v, t, rfl, h1, h2⟩ := h
    have ih := RF.lookup (f := f) h2
    by_cases hg : f = g
    · subst hg
      refine ⟨fun d q => ?_, fun q => ?_⟩
      · rw [List.lookup_cons, beq_self_eq_true] at q
        cases q
        exact ⟨v, by rw [List.lookup_cons, beq_self_eq_true], h1⟩
      · rw [List.lookup_cons, beq_self_eq_true] at q
        cases q
    · have hT : (T f == T g) = false := beq_eq_false_iff_ne.mpr fun z => hg (T_inj z)
      have hM : (f == g) = false := beq_eq_false_iff_ne.mpr hg
      rw [List.lookup_cons, List.lookup_cons, hM, hT]
      exact ih
section
variable {X : Cx} {C : Cfg} {W : WX}
theorem m_fld {c : Nat} {f : Tx} {f' : Str} {e : Expr} {a' : Fe} {pos : Pos} (hf : f' = T f) (cl : Cls X.K (C.cA c)) (na : NoAttr X.K (C.cA c) f') (he : PE X e (tE C W a')) (hb : attributeBase e f' X.env (eval e X.env) = eval e X.env := by rfl) :
    PE X (.Attribute e f' pos) (tE C W (eFld c f a')) := by
  subst hf
  refine PE.imp (pe_fld he hb) fun σ H Q h => ?_
  obtain ⟨ρ, M, env, rh, re, p⟩ := h
  refine ⟨ρ, M, env, rh, re, p.bind.imp (fun d M1 ρ1 H1 e1 rh1 p2 v rv => ?_) (fun _ _ _ _ _ _ q => q)⟩
  cases d with
  | ref i =>
    rw [rv_ref] at rv
    obtain ⟨a, ha, rfl⟩ := rv
    cases hm : M1[i]? with
    | none => simp only [hm] at p2; exact p2.elim
    | some o =>
      cases o with
      | ins c' fs =>
        simp only [hm] at p2
        by_cases hc : c' = c
        · subst hc
          simp only [if_true] at p2
          cases hl : fs.lookup f with
          | none => simp only [hl] at p2; exact p2.elim
          | some d =>
            simp only [hl] at p2
            obtain ⟨dx, gs, g1, g2⟩ := rh1.at hm ha
            obtain ⟨v, hv, rv⟩ := (RF.lookup (f := f) g2).1 d hl
            exact ⟨a, _, dx, gs, v, rfl, g1, cl, na, hv, p2.now rh1 v rv⟩
        · rw [if_neg hc] at p2
          exact p2.elim
      | _ => simp only [hm] at p2; exact p2.elim
  | _ => exact p2.elim
end
/-! ### stores -/
def putM (f : Tx) (d : MV) : List (Tx × MV) → List (Tx × MV)
  | [] => [(f, d)]
  | (g, x) :: r => if g = f then (g, d) :: r else (g, x) :: putM f d r
theorem RF.put {K : PySem.W.Frag} {H : Hp} {ρ : List Addr} {f : Tx} {d : MV} {v : V} (rv : RV K H ρ d v) : ∀ {fs : List (Tx × MV)} {gs : List (Str × V)}, RF K H ρ fs gs → RF K H ρ (putM f d fs) (putF (T f) v gs)
  | [], gs, h => by
    have h : gs = [] := h
    subst h
    exact ⟨v, [], rfl, rv, rfl⟩
  | (g, e) :: fs, gs, h => by
    obtain ⟨w, t, rfl, h1, h2⟩ := h
    by_cases hg : g = f
    · subst hg
      have e1 : putM g d ((g, e) :: fs) = (g, d) :: fs := by unfold putM; rw [if_pos rfl]
      have e2 : putF (T g) v ((T g, w) :: t) = (T g, v) :: t := by unfold putF; rw [if_pos rfl]
      rw [e1, e2]
      exact ⟨v, t, rfl, rv, h2⟩
    · have e1 : putM f d ((g, e) :: fs) = (g, e) :: putM f d fs := by rw [putM, if_neg hg]
      have e2 : putF (T f) v ((T g, w) :: t) = (T g, w) :: putF (T f) v t := by rw [putF, if_neg fun z => hg (T_inj z)]
      rw [e1, e2]
      exact ⟨w, _, rfl, h1, RF.put rv h2⟩
theorem RF.len {K : PySem.W.Frag} {H : Hp} {ρ : List Addr} : ∀ {fs : List (Tx × MV)} {gs : List (Str × V)}, RF K H ρ fs gs → gs.length = fs.length
  | [], gs, h => by
    have h : gs = [] := h
    subst h
    rfl
  | (g, e) :: fs, gs, h => by
    obtain ⟨w, t, rfl, _, h2⟩ := h
    rw [List.length_cons, List.length_cons, RF.len h2]
/-- o.f = e -/
def sFldSet (c : Nat) (f : Tx) (o e : Fe) : Fs := fun env M => (e env M).st env fun d M1 => (o env M1).st env fun x M2 => match x with
  | .ref i => (match M2[i]? with
    | some (.ins c' fs) => if c' = c ∧ fs.length < 1000 then .ok .nx env (M2.set i (.ins c (putM f d fs))) else .bad
    | _ => .bad)
  | _ => .bad
section
variable {X : Cx} {C : Cfg} {W : WX}
theorem m_fldSet {c : Nat} {f : Tx} {f' : Str} {o e : Expr} {o' e' : Fe} {pos pos' : Pos} (hf : f' = T f) (cl : Cls X.K (C.cA c)) (na : NoAttr X.K (C.cA c) f') (ho : PE X o (tE C W o')) (he : PE X e (tE C W e')) (hs : swapsWith e (some (.Attribute o f' pos')) pos.line X.env = pure false := by rfl) :
    PS X (.Assign [.Attribute o f' pos'] e pos) (tS C W (sFldSet c f o' e')) := by
  subst hf
  refine PS.imp (ps_fld ho he hs) fun D σ H h => ?_
  obtain ⟨ρ, M, env, rh, re, p⟩ := h
  refine ⟨ρ, M, env, rh, re, (p.st re).imp (fun d M1 ρ1 H1 e1 rh1 p2 v rv => ?_) (fun _ _ _ _ _ _ q => q)⟩
  refine ⟨ρ1, M1, env, rh1, re.mono e1, (p2.st (re.mono e1)).imp (fun x M2 ρ2 H2 e2 rh2 p3 w rw_ => ?_) (fun _ _ _ _ _ _ q => q)⟩
  cases x with
  | ref i =>
    rw [rv_ref] at rw_
    obtain ⟨a, ha, rfl⟩ := rw_
    cases hm : M2[i]? with
    | none => simp only [hm] at p3; exact p3.elim
    | some ob =>
      cases ob with
      | ins c' fs =>
        simp only [hm] at p3
        by_cases hc : c' = c ∧ fs.length < 1000
        · rw [if_pos hc] at p3
          obtain ⟨rfl, hl⟩ := hc
          obtain ⟨dx, gs, g1, g2⟩ := rh2.at hm ha
          have ex : Ext C.K ρ2 ρ2 H2 (upd H2 a (.ins (C.cA c') dx (putF (T f) v gs))) := Ext.wr g1 trivial (List.mem_of_getElem? ha)
          have rr : RO C (upd H2 a (.ins (C.cA c') dx (putF (T f) v gs))) ρ2 (.ins c' (putM f d fs)) a := ⟨dx, _, upd_same, RF.put ((rv.mono e2).mono ex) (RF.mo ex.toMo g2)⟩
          exact ⟨a, _, dx, gs, rfl, g1, cl, na, by rw [RF.len g2]; exact hl, (p3.ext ex).nx (rh2.set ha rr) (((re.mono e1).mono e2).mono ex)⟩
        · rw [if_neg hc] at p3
          exact p3.elim
      | _ => simp only [hm] at p3; exact p3.elim
  | _ => exact p3.elim
end
/-! ### methods, instances made: none of them raises -/
def eMth (c : Nat) (G : Ga) (f : Nat) (m : Tx) (o : Fe) (t : Fa) : Fe := fun env M => (o env M).bind fun x M1 => match x with
  | .ref i => (match M1[i]? with
    | some (.ins c' fs) => if c' = c ∧ fs.lookup m = none then (t env M1).bind fun xs M2 => (G f (x :: xs) M2).bindN fun d M3 => .ok d M3 else .bad
    | _ => .bad)
  | _ => .bad
def eNew (c : Nat) (G : Ga) (f : Nat) (t : Fa) : Fe := fun env M => (t env M).bind fun xs M1 => (G f (.ref M1.length :: xs) (M1 ++ [.ins c []])).bindN fun d M2 => match d with
  | .non => .ok (.ref M1.length) M2
  | _ => .bad
/-- the method m stands at f -/
def MthAt (K : PySem.W.Frag) (C : Addr) (m q : Str) (st : Stmt) (f : Addr) : Prop := Meth K C m f ∧ ∃ fd, Fun K m q st f fd
theorem mth_at {K : PySem.W.Frag} {C : Addr} {m q : Str} {st : Stmt} {f : Addr} {oc : Value} {od an : Option Addr} {osl : Array (Option Value)} {kV doc pm cdv ct : Value} (a : PySem.W.findIn K (.ref C) m = some (some (.ref f))) (i : PySem.W.isFn K (.ref f) = true)
    (l : K.lookup f = some ⟨oc, od, .func (PySem.W.fnOf m q (defArgs st) (defBody st) (defScope st) .none kV doc pm an cdv ct), osl⟩) (c : PySem.W.codeIn K cdv q = true) (k : PySem.W.keepIn K (.ref f) = true) : ∃ f, MthAt K C m q st f := ⟨f, ⟨a, i, k⟩, _, fun_mk l c k⟩
end Mi
set_option maxRecDepth 100000
/-! Methods called, instances made. -/
namespace Mi
open PySem PySem.Spec PyProof.Rows L2
section
variable {X : Cx} {C : Cfg} {W : WX}
theorem noPass {P : Program} {w : World} : Passes (L2.CX P w) X (fun _ _ _ => False) := fun _ _ _ _ _ _ _ h => by
  obtain ⟨_, _, _, _, _, _, _, _, _, _, _, _, e⟩ := h
  exact e.elim
/-- what a method's call asks: nothing may be raised -/
theorem bindN_post {α : Type} {ρ : List Addr} {H : Hp} {r : R MV} {f : MV → Hm → R α} {F : α → Hm → List Addr → Hp → Prop} {Gx : MX → Hm → List Addr → Hp → Prop} (p : Post C ρ H (r.bindN f) F Gx) :
    Post C ρ H r (fun d M' ρ' H' => Post C ρ' H' (f d M') F Gx) (fun _ _ _ _ => False) := by
  cases r with
  | ok d M => exact fun ρ' H' e' _ => Post.ext p e'
  | exc x M => exact p.elim
  | bad => exact p.elim
theorem m_mth {G : Ga} {c f : Nat} {fa : Addr} {m : Tx} {m' : Str} {o e : Expr} {es : List Expr} {o' : Fe} {t' : Fa} {pos apos : Pos} {pl : Sem Bool} (hm' : m' = T m) (c1 : Call1 C X.prog X.w X.K X.mg X.base X.A G f fa) (cl : Cls X.K (C.cA c)) (hm : Meth X.K (C.cA c) m' fa) (ho : PE X o (tE C W o')) (ha : PA X (e :: es) (tA C W t'))
    (hst : starEach (e :: es) X.env = (false, eval e X.env) :: starEach es X.env := by rfl) (hpl : (backTo pos (starEach es X.env)).any (·.1) = false := by rfl)
    (ht : eval (.Call (.Attribute o m' apos) (e :: es) [] pos) X.env = (do
      let ov ← eval o X.env
      standAt apos.atName
      let (f, first) ← holding [ov] (getMethod ov m' pl)
      callWith pos f first (backTo pos (starEach (e :: es) X.env)) (backToKw pos (keywordEach [] X.env))) := by rfl) :
    PE X (.Call (.Attribute o m' apos) (e :: es) [] pos) (tE C W (eMth c G f m o' t')) := by
  subst hm'
  obtain ⟨np, hl, k, fd, ps, F, hr, hb⟩ := c1.np
  refine PE.imp (pe_meth (dvs := []) (ds := []) (pl := pl) ho cl hm F (hr.mono (Nat.le_succ k)) hb .nil noPass ha hst hpl ht) fun σ H Q h => ?_
  obtain ⟨ρ, M, env, rh, re, p⟩ := h
  refine ⟨ρ, M, env, rh, re, p.bind.imp (fun d M1 ρ1 H1 e1 rh1 p2 v rv => ?_) (fun _ _ _ _ _ _ q => q)⟩
  cases d with
  | ref i =>
    have rv0 := rv
    rw [rv_ref] at rv
    obtain ⟨a, hia, rfl⟩ := rv
    cases hmm : M1[i]? with
    | none => simp only [hmm] at p2; exact p2.elim
    | some ob =>
      cases ob with
      | ins c' fs =>
        simp only [hmm] at p2
        by_cases hc : c' = c ∧ fs.lookup m = none
        · rw [if_pos hc] at p2
          obtain ⟨rfl, hlk⟩ := hc
          obtain ⟨dx, gs, g1, g2⟩ := rh1.at hmm hia
          refine ⟨a, dx, gs, rfl, g1, (RF.lookup (f := m) g2).2 hlk, ρ1, M1, env, rh1, re.mono e1, p2.bind.imp (fun xs M2 ρ2 H2 e2 rh2 p3 vs rvs => ?_) (fun _ _ _ _ _ _ q => q)⟩
          have hlen : (MV.ref i :: xs).length = np := by
            by_cases hn : (MV.ref i :: xs).length = np
            · exact hn
            · rw [hl _ M2 hn] at p3
              exact p3.elim
          show spF C G np f (V.ref a :: (vs ++ [])) H2 Q fun _ _ _ => False
          rw [List.append_nil]
          refine ⟨by rw [List.length_cons, rvs.len]; exact hlen, ρ2, M2, .ref i :: xs, rh2, RVs.cons (rv0.mono e2) rvs, (bindN_post p3).imp (fun d M3 ρ3 H3 e3 rh3 p4 v rv3 => p4.now rh3 v rv3) (fun _ _ _ _ _ _ q => q.elim)⟩
        · rw [if_neg hc] at p2
          exact p2.elim
      | _ => simp only [hmm] at p2; exact p2.elim
  | _ => exact p2.elim
theorem m_new {G : Ga} {c f : Nat} {fa : Addr} {x : Str} {e : Expr} {es : List Expr} {t' : Fa} {p pos : Pos} (c1 : Call1 C X.prog X.w X.K X.mg X.base X.A G f fa) (mk : Mk X.K (C.cA c) fa) (hx : X.mg x = some (.ref (C.cA c))) (ha : PA X (e :: es) (tA C W t')) (hg : Gl X x := by rfl)
    (hdb : (x == ("__debug__" : Str)) = false := by decide) (he : starEach (e :: es) X.env = (false, eval e X.env) :: starEach es X.env := by rfl) (hpl : (backTo pos (starEach es X.env)).any (·.1) = false := by rfl) :
    PE X (.Call (.Name x p) (e :: es) [] pos) (tE C W (eNew c G f t')) := by
  obtain ⟨np, hl, k, fd, ps, F, hr, hb⟩ := c1.np
  refine PE.imp (pe_make (dvs := []) (ds := []) mk F hr hg hx hb .nil noPass ha hdb he hpl) fun σ H Q h => ?_
  obtain ⟨ρ, M, env, rh, re, p⟩ := h
  refine ⟨ρ, M, env, rh, re, p.bind.imp (fun xs M1 ρ1 H1 e1 rh1 p2 vs rvs y dx hy hdx hne => ?_) (fun _ _ _ _ _ _ q => q)⟩
  have hlen : (MV.ref M1.length :: xs).length = np := by
    by_cases hn : (MV.ref M1.length :: xs).length = np
    · exact hn
    · rw [hl _ _ hn] at p2
      exact p2.elim
  have hy2 : (upd H1 dx (.own y)) y = none := by rw [upd_ne (Ne.symm hne)]; exact hy
  have rh2 : RH C (ρ1 ++ [y]) (upd (upd H1 dx (.own y)) y (.ins (C.cA c) dx [])) (M1 ++ [.ins c []]) := (rh1.beside hdx).push hy2 ⟨dx, [], upd_same, rfl⟩
  have e2 : Ext C.K ρ1 (ρ1 ++ [y]) H1 (upd (upd H1 dx (.own y)) y (.ins (C.cA c) dx [])) := (Ext.new hdx).trans (Ext.new1 hy2)
  have hiy : (ρ1 ++ [y])[M1.length]? = some y := by rw [← rh1.len]; simp
  show spF C G np f (V.ref y :: (vs ++ [])) _ _ fun _ _ _ => False
  rw [List.append_nil]
  refine ⟨by rw [List.length_cons, rvs.len]; exact hlen, _, _, .ref M1.length :: xs, rh2, RVs.cons (rv_ref.mpr ⟨y, hiy, rfl⟩) (rvs.mono e2), (bindN_post (Post.ext p2 e2)).imp (fun d M3 ρ3 H3 e3 rh3 p4 v rv3 => ?_) (fun _ _ _ _ _ _ q => q.elim)⟩
  cases d with
  | non =>
    rw [rv_non] at rv3
    refine ⟨rv3, p4.now rh3 _ (rv_ref.mpr ⟨y, ?_, rfl⟩)⟩
    obtain ⟨z, hz⟩ := e3.toMo.pre
    rw [← hz, List.getElem?_append_left (by rw [List.length_append, ← rh1.len]; simp)]
    exact hiy
  | _ => exact p4.elim
end
end Mi
set_option maxRecDepth 100000
/-! Further constructs. -/
namespace Mi
open PySem PySem.Spec PyProof.Rows L2
/-- a store o[i] = d into a list -/
def fSetL : MV → MV → MV → Hm → R MV
  | .ref k, .int i, d, M => match M[k]? with
    | some (.lst l) => (match ixN l.length i with
      | some j => .ok .non (M.set k (.lst (l.set j d)))
      | none => .bad)
    | _ => .bad
  | _, _, _, _ => .bad
/-- the target o[i] -/
def gIx (f : MV → MV → MV → Hm → R MV) (a b : Fe) : Ftg := fun d env M => (a env M).bindN fun x M1 => (b env M1).bindN fun y M2 => (f x y d M2).bindN fun _ M3 => .ok env M3
section
variable {X : Cx} {C : Cfg} {W : WX}
theorem mg_ixL {a b : Expr} {a' b' : Fe} {vs : List Nat} {pos : Pos} (ha : PE X a (tE C W0 a')) (hb : PE X b (tE C W0 b'))
    (hs : ∀ v, assign (.Subscript a b pos) X.env v = (do
      let ov ← holding [v] (eval a X.env)
      let iv ← holding [v, ov] (eval b X.env)
      standAt pos
      holding [v, ov, iv] (setItem ov iv v)
      release [v, ov, iv] []) := by intro _; rfl) : PG X (.Subscript a b pos) (tGt C vs (gIx fSetL a' b')) := by
  refine PG.imp (pg_sub ha hb set_list hs) fun v σ H Q h => ?_
  obtain ⟨ρ, M, env, d, G, rh, re, rv, p⟩ := h
  refine ⟨ρ, M, env, rh, re, p.bindN.imp (fun x M1 ρ1 H1 e1 rh1 p2 o ro => ?_) (fun _ _ _ _ _ _ z => z.elim)⟩
  refine ⟨ρ1, M1, env, rh1, re.mono e1, p2.bindN.imp (fun y M2 ρ2 H2 e2 rh2 p3 i ri => ?_) (fun _ _ _ _ _ _ z => z.elim)⟩
  have p4 := p3.bindN
  have rv2 := (rv.mono e1).mono e2
  have ro2 := ro.mono e2
  have re2 := (re.mono e1).mono e2
  unfold fSetL at p4
  split at p4
  · rw [rv_ref] at ro2; rw [rv_int] at ri; subst ri
    obtain ⟨a, ha, rfl⟩ := ro2
    split at p4
    · rename_i l hm
      obtain ⟨xs, q1, q2⟩ := rh2.at hm ha
      split at p4
      · rename_i j hj
        refine ⟨a, xs, _, j, rfl, rfl, q1, by rw [q2.len]; exact hj, ?_⟩
        obtain ⟨o, hm, ro⟩ := rh2.there ha
        obtain ⟨u, hu, mu⟩ := ro.mut
        have e : Ext C.K ρ2 ρ2 H2 (upd H2 a (.lst (xs.set j v))) := Ext.wr (C := C) hu mu (List.mem_of_getElem? ha)
        have rh3 := rh2.set (ob := .lst (_ : List MV)) ha ⟨xs.set j v, upd_same, (q2.set j rv2).mono e⟩
        exact (p4 _ _ e rh3).now rh3 σ (re2.mono e) rfl
      · exact p4.elim
    · exact p4.elim
  · exact p4.elim
/-! ### what is walked, of any kind -/
theorem PI.cases {tg l : Expr} {l' : Fe} {f : Fi} (hC : C.K = X.K) (hl : PE X l (tE C W l')) (h : ∀ env M, (f env M = iL l' env M) ∨ (f env M = iT l' env M) ∨ (f env M = iS l' env M)) : PI X tg l (tIt C W f) :=
  ⟨fun pins s σ H R I q => by
    obtain ⟨ρ, M, env, rh, re, p⟩ := q
    rcases h env M with e | e | e
    · exact (mi_list hC hl).run pins s σ H R I ⟨ρ, M, env, rh, re, by rw [← e]; exact p⟩
    · exact (mi_tup hC hl).run pins s σ H R I ⟨ρ, M, env, rh, re, by rw [← e]; exact p⟩
    · exact (mi_str hl).run pins s σ H R I ⟨ρ, M, env, rh, re, by rw [← e]; exact p⟩⟩
/-- a list, a tuple, a text -/
def iA (a : Fe) : Fi := fun env M => (a env M).bind fun x M1 => match x with
  | .ref i => match M1[i]? with
    | some (.lst l) => .ok (nL i, l.length + 1) M1
    | _ => .bad
  | .rol l => .ok (nT l, l.length + 1) M1
  | .tup l => .ok (nT l, l.length + 1) M1
  | .str s => .ok (nT (s.map fun c => .str [c]), s.length + 1) M1
  | _ => .bad
theorem mi_any {tg l : Expr} {l' : Fe} (hC : C.K = X.K) (hl : PE X l (tE C W l')) : PI X tg l (tIt C W (iA l')) := PI.cases hC hl fun env M => by
  unfold iA iL iT iS
  cases l' env M with
  | ok d M1 => cases d <;> first | exact .inl rfl | exact .inr (.inl rfl) | exact .inr (.inr rfl)
  | exc x M1 => exact .inl rfl
  | bad => exact .inl rfl
/-! ### x += y -/
def fIAdd : MV → MV → Hm → R MV
  | .int i, .int j, M => .ok (.int (i + j)) M
  | .str s, .str t, M => if s.length + t.length ≤ SL then .ok (.str (s ++ t)) M else .bad
  | _, _, _ => .bad
def rIAdd : R2 := fun x y H Q => (∃ i j, x = .int i ∧ y = .int j ∧ Q (.int (i + j)) H) ∨ ∃ i j, x = .str i ∧ y = .str j ∧ i.length + j.length ≤ sizeLine ∧ Q (.str (i ++ j)) H
theorem inp_addM : OpR X (inplaceOp .Add) rIAdd := fun pins s σ H x y v u Q I rx ry h => by
  rcases h with ⟨i, j, h1, h2, h3⟩ | h
  · exact iop_add pins s σ H x y v u Q I rx ry ⟨i, j, h1, h2, h3⟩
  · exact iop_add_str pins s σ H x y v u Q I rx ry h
theorem sim_inpAdd {C : Cfg} : Sim2 C fIAdd rIAdd := by
  intro ρ H M d e x y Q G rh rx ry p
  unfold fIAdd at p
  split at p
  · rw [rv_int] at rx ry; subst rx; subst ry
    exact .inl ⟨_, _, rfl, rfl, p.val rh (rv_int.mpr rfl)⟩
  · rw [rv_str] at rx ry; subst rx; subst ry
    split at p
    · rename_i hl
      exact .inr ⟨_, _, rfl, rfl, by rw [T_len, T_len, sizeLine_eq]; exact hl, p.val rh (rv_str.mpr (congrArg V.str (T_app _ _)))⟩
    · exact p.elim
  · exact p.elim
theorem inp_sub : OpR X (inplaceOp .Sub) (rI0 fun i j => .int (i - j)) := iop_sub
end

/-! ### the facts of a text -/
/-- the def st stands at f -/
def FunAt (K : PySem.W.Frag) (x : Str) (st : Stmt) (f : Addr) : Prop := PySem.W.nsIn K mainGlobals x = some (some (.ref f)) ∧ ∃ fd, Fun K x x st f fd
theorem fun_at {K : PySem.W.Frag} {x : Str} {st : Stmt} {f : Addr} {oc : Value} {od an : Option Addr} {osl : Array (Option Value)} {kV doc pm cdv ct : Value} (a : PySem.W.nsIn K mainGlobals x = some (some (.ref f)))
    (l : K.lookup f = some ⟨oc, od, .func (PySem.W.fnOf x x (defArgs st) (defBody st) (defScope st) .none kV doc pm an cdv ct), osl⟩)
    (c : PySem.W.codeIn K cdv x = true) (k : PySem.W.keepIn K (.ref f) = true) : ∃ f, FunAt K x st f := ⟨f, a, _, fun_mk l c k⟩
theorem bind1 {K : PySem.W.Frag} {x p : Str} {st : Stmt} {f : Addr} {fd : FuncData} (F : Fun K x x st f fd)
    (h : ∀ (kV doc pm : Value) (an : Option Addr) (cdv ct : Value) (u : Value), bindArgs (PySem.W.fnOf x x (defArgs st) (defBody st) (defScope st) .none kV doc pm an cdv ct) ⟨[u], []⟩ = pure [(p, u)]) (s : Shared) (u : Value) : BindsTo s fd ⟨[u], []⟩ [(p, u)] := by
  obtain ⟨⟨oc, od, kV, doc, pm, an, cdv, ct, osl, rfl, lk, hcd⟩, _⟩ := F
  exact .of_eq (h kV doc pm an cdv ct u)
/-- a constant of the module -/
def ConstAt (K : PySem.W.Frag) (mg : Str → Option Value) (x : Str) (d : MV) : Prop := ∃ v u, mg x = some u ∧ RelV v u ∧ ∀ H ρ, RV K H ρ d v
theorem const_int {K : PySem.W.Frag} {h : Heap} {mg : Str → Option Value} {x : Str} {i : Int} {t : Nat} (X : K.In h) (G : h.Ns mainGlobals mg) (a : PySem.W.nsIn K mainGlobals x = some (some (.int i t))) : ConstAt K mg x (.int i) :=
  ⟨.int i, .int i t, PySem.W.mg_of X G a, ⟨t, rfl⟩, fun _ _ => rv_int.mpr rfl⟩
theorem const_str {K : PySem.W.Frag} {h : Heap} {mg : Str → Option Value} {x z : Str} {l : Tx} {t : Nat} (X : K.In h) (G : h.Ns mainGlobals mg) (a : PySem.W.nsIn K mainGlobals x = some (some (.str z t))) (e : z = T l) : ConstAt K mg x (.str l) :=
  ⟨.str z, .str z t, PySem.W.mg_of X G a, ⟨t, rfl⟩, fun _ _ => rv_str.mpr (by rw [e])⟩
theorem const_loose {K : PySem.W.Frag} {h : Heap} {mg : Str → Option Value} {p : Program} {lv : List (Str × PySem.W.WData)} {x : Str} {i : Int} (X : PySem.W.XL p lv mg h) (m : (x, PySem.W.WData.int i) ∈ lv) : ConstAt K mg x (.int i) := by
  obtain ⟨v, h1, h2⟩ := X.2.val _ m
  have h2 : PySem.W.ReadsLit h v (.int i) [] := h2
  cases h2 with
  | int i t => exact ⟨.int i, .int i t, h1, ⟨t, rfl⟩, fun _ _ => rv_int.mpr rfl⟩
/-- isinstance with an own class -/
theorem kit_ref {K : PySem.W.Frag} {C : Addr} {cls : Value} {b : Bool} (hs : cls = .ref C → b = true) (hdct : PySem.W.hasDictIn K C = true) (ht : PySem.W.typeIn K (.ref C) = some (.type "type")) (h4 : PySem.W.subIn K cls (.ref C) = some b) : PySem.W.kitOne K cls (.ref C) = some b := by
  unfold PySem.W.kitOne
  by_cases e : cls = .ref C
  · rw [if_pos (by rw [e]; exact beq_self_eq_true _), hs e]
  · rw [if_neg (fun z => e (beq_iff_eq.mp z))]
    have hc : (PySem.W.clsIn K C).isSome = true := by
      unfold PySem.W.hasDictIn at hdct
      cases q : PySem.W.clsIn K C with
      | none => rw [q] at hdct; cases hdct
      | some c => rfl
    show (if ((PySem.W.clsIn K C).isSome && PySem.W.typeIn K (.ref C) == some (.type "type")) = true then PySem.W.subIn K cls (.ref C) else none) = some b
    rw [hc, ht, if_pos (by decide)]
    exact h4
end Mi
set_option maxRecDepth 100000
/-! Dicts. -/
namespace Mi
open PySem PySem.Spec PyProof.Rows L2
/-- like keys: numbers, texts -/
def kEq : MV → MV → Bool
  | .int i, .int j => decide (i = j)
  | .str s, .str t => decide (s = t)
  | _, _ => false
def isKey : MV → Bool
  | .int _ => true
  | .str _ => true
  | _ => false
def getD (l : List (MV × MV)) (k : MV) : Option MV := (l.find? fun p => kEq p.1 k).map (·.2)
def putD (l : List (MV × MV)) (k d : MV) : List (MV × MV) := if l.any (fun p => kEq p.1 k) then l.map (fun p => if kEq p.1 k then (p.1, d) else p) else l ++ [(k, d)]
theorem key_is {k : MV} (h : isKey k = true) : ∃ k', keyM k = some k' := by
  cases k with
  | int i => exact ⟨_, rfl⟩
  | str s => exact ⟨_, rfl⟩
  | _ => cases h
theorem kEq_iff {j k : MV} {j' k' : Key} (hj : keyM j = some j') (hk : keyM k = some k') : kEq j k = decide (j' = k') := by
  cases j <;> cases k <;> simp only [keyM] at hj hk <;> cases hj <;> cases hk
  · simp [kEq]
  · simp [kEq]
  · simp [kEq]
  · rename_i s t
    simp only [kEq]
    by_cases h : s = t
    · subst h; simp
    · have : ¬ T s = T t := fun z => h (T_inj z)
      simp [h, this]
theorem key_rv {K : PySem.W.Frag} {H : Hp} {ρ : List Addr} {k : MV} {k' : Key} {v : V} (h : keyM k = some k') (r : RV K H ρ k v) : v = kV k' := by
  cases k <;> simp only [keyM] at h <;> cases h
  · rw [rv_int] at r; exact r
  · rw [rv_str] at r; exact r
section
variable {K : PySem.W.Frag} {H : Hp} {ρ : List Addr}
theorem RK.len : ∀ {l : List (MV × MV)} {ks : List (Key × V)}, RK K H ρ l ks → ks.length = l.length
  | [], ks, h => by unfold RK at h; subst h; rfl
  | (k, d) :: r, ks, h => by
    unfold RK at h
    obtain ⟨k', v, t, rfl, _, _, h4⟩ := h
    simp [RK.len h4]
theorem RK.get {k : MV} {k' : Key} (hk : keyM k = some k') : ∀ {l : List (MV × MV)} {ks : List (Key × V)}, RK K H ρ l ks → (match getD l k with | some d => ∃ v, valV ks k' = some v ∧ RV K H ρ d v | none => valV ks k' = none)
  | [], ks, h => by unfold RK at h; subst h; rfl
  | (j, d) :: r, ks, h => by
    unfold RK at h
    obtain ⟨j', v, t, rfl, h2, h3, h4⟩ := h
    have ih := RK.get hk h4
    have e := kEq_iff h2 hk
    by_cases hj : j' = k'
    · rw [decide_eq_true hj] at e
      have : getD ((j, d) :: r) k = some d := by simp [getD, List.find?_cons, e]
      rw [this]
      exact ⟨v, valV_pos hj, h3⟩
    · rw [decide_eq_false hj] at e
      have : getD ((j, d) :: r) k = getD r k := by simp [getD, List.find?_cons, e]
      rw [this, valV_neg hj]
      exact ih
theorem RK.any {k : MV} {k' : Key} (hk : keyM k = some k') : ∀ {l : List (MV × MV)} {ks : List (Key × V)}, RK K H ρ l ks → (ks.any fun kv => decide (kv.1 = k')) = l.any fun p => kEq p.1 k
  | [], ks, h => by unfold RK at h; subst h; rfl
  | (j, d) :: r, ks, h => by
    unfold RK at h
    obtain ⟨j', v, t, rfl, h2, h3, h4⟩ := h
    rw [List.any_cons, List.any_cons, RK.any hk h4, kEq_iff h2 hk]
theorem RK.map {k d : MV} {k' : Key} {v : V} (hk : keyM k = some k') (rd : RV K H ρ d v) : ∀ {l : List (MV × MV)} {ks : List (Key × V)}, RK K H ρ l ks → RK K H ρ (l.map fun p => if kEq p.1 k then (p.1, d) else p) (ks.map fun kv => if kv.1 = k' then (kv.1, v) else kv)
  | [], ks, h => by unfold RK at h; subst h; unfold RK; rfl
  | (j, d0) :: r, ks, h => by
    unfold RK at h
    obtain ⟨j', v0, t, rfl, h2, h3, h4⟩ := h
    rw [List.map_cons, List.map_cons]
    have e := kEq_iff h2 hk
    by_cases hj : j' = k'
    · rw [decide_eq_true hj] at e
      simp only [e, if_true, hj]
      unfold RK
      exact ⟨k', v, _, rfl, by rw [h2, hj], rd, RK.map hk rd h4⟩
    · rw [decide_eq_false hj] at e
      simp only [e, hj]
      unfold RK
      exact ⟨j', v0, _, rfl, h2, h3, RK.map hk rd h4⟩
theorem RK.snoc {k d : MV} {k' : Key} {v : V} (hk : keyM k = some k') (rd : RV K H ρ d v) : ∀ {l : List (MV × MV)} {ks : List (Key × V)}, RK K H ρ l ks → RK K H ρ (l ++ [(k, d)]) (ks ++ [(k', v)])
  | [], ks, h => by
    unfold RK at h; subst h
    show RK K H ρ [(k, d)] [(k', v)]
    unfold RK
    exact ⟨k', v, [], rfl, hk, rd, by unfold RK; rfl⟩
  | (j, d0) :: r, ks, h => by
    unfold RK at h
    obtain ⟨j', v0, t, rfl, h2, h3, h4⟩ := h
    show RK K H ρ ((j, d0) :: (r ++ [(k, d)])) ((j', v0) :: (t ++ [(k', v)]))
    unfold RK
    exact ⟨j', v0, _, rfl, h2, h3, RK.snoc hk rd h4⟩
theorem RK.put {k d : MV} {k' : Key} {v : V} {l : List (MV × MV)} {ks : List (Key × V)} (hk : keyM k = some k') (rd : RV K H ρ d v) (h : RK K H ρ l ks) : RK K H ρ (putD l k d) (putK ks k' v) := by
  unfold putD putK
  rw [h.any hk]
  split
  · exact h.map hk rd
  · exact h.snoc hk rd
end
/-! ### d[k], k in d -/
theorem Post.impE {α : Type} {C : Cfg} {ρ : List Addr} {H : Hp} {r : R α} {F F' : α → Hm → List Addr → Hp → Prop} {G G' : MX → Hm → List Addr → Hp → Prop} (p : Post C ρ H r F G) (h : ∀ a M ρ' H', r = .ok a M → Ext C.K ρ ρ' H H' → RH C ρ' H' M → F a M ρ' H' → F' a M ρ' H')
    (g : ∀ x M ρ' H', Ext C.K ρ ρ' H H' → RH C ρ' H' M → G x M ρ' H' → G' x M ρ' H') : Post C ρ H r F' G' := by
  cases r with
  | ok a M => exact fun ρ' H' e rh => h a M ρ' H' rfl e rh (p ρ' H' e rh)
  | exc x M => exact fun ρ' H' e rh => g x M ρ' H' e rh (p ρ' H' e rh)
  | bad => exact p
def fIxA (x y : MV) (M : Hm) : R MV := match x with
  | .ref k => (match M[k]? with
    | some (.dic l) => if isKey y then (match getD l y with
      | some d => .ok d M
      | none => .bad) else .bad
    | _ => fIx x y M)
  | _ => fIx x y M
section
variable {X : Cx} {C : Cfg} {W : WX}
theorem fIxA_not {x y : MV} {M : Hm} (h : ∀ k l, x = .ref k → M[k]? ≠ some (.dic l)) : fIxA x y M = fIx x y M := by
  unfold fIxA
  cases x with
  | ref k =>
    show (match M[k]? with
      | some (.dic l) => if isKey y then (match getD l y with
        | some d => R.ok d M
        | none => R.bad) else R.bad
      | _ => fIx (.ref k) y M) = _
    cases hm : M[k]? with
    | none => rfl
    | some o =>
      cases o with
      | dic l => exact absurd hm (h k l rfl)
      | _ => rfl
  | _ => rfl
theorem m_ixA {a b : Expr} {a' b' : Fe} {pos : Pos} (hu : X.A.units + 64 < cLine) (hC : C.K = X.K) (ha : PE X a (tE C W a')) (hb : PE X b (tE C W b')) (hs : PlainIx b := by intro _ _; rfl) (hs2 : NoSl b := by intro _ _; rfl) : PE X (.Subscript a b pos) (tE C W (eOp fIxA a' b')) := ⟨fun pins s σ H Q I h => by
  obtain ⟨ρ, M, env, rh, re, p⟩ := h
  by_cases hd : ∃ M1 y M2 k l, a' env M = .ok (.ref k) M1 ∧ b' env M1 = .ok y M2 ∧ M2[k]? = some (.dic l)
  · obtain ⟨M1, y, M2, k, l, h1, h2, h3⟩ := hd
    refine (pe_dget (by omega) ha hb hs2).run pins s σ H Q I ⟨ρ, M, env, rh, re, p.bind.impE (fun d M1' ρ1 H1 q1 e1 rh1 p2 v rv => ?_) (fun _ _ _ _ _ _ q => q)⟩
    rw [h1] at q1
    cases q1
    refine ⟨ρ1, M1, env, rh1, re.mono e1, p2.bind.impE (fun y' M2' ρ2 H2 q2 e2 rh2 p3 w rw_ => ?_) (fun _ _ _ _ _ _ q => q)⟩
    rw [h2] at q2
    cases q2
    have rv := rv.mono e2
    rw [rv_ref] at rv
    obtain ⟨ad, hra, rfl⟩ := rv
    obtain ⟨ks, q1, q2⟩ := rh2.at h3 hra
    unfold fIxA at p3
    simp only [h3] at p3
    split at p3
    · rename_i hk
      obtain ⟨k', hk'⟩ := key_is hk
      have hg := RK.get hk' q2
      split at p3
      · rename_i d hd
        rw [hd] at hg
        obtain ⟨v, hv, rv2⟩ := hg
        refine ⟨ad, v, rfl, ?_, p3.val rh2 rv2⟩
        rw [key_rv hk' rw_, ← hv]
        exact DGet.k q1
      · exact p3.elim
    · exact p3.elim
  · refine (m_ix hC ha hb hs).run pins s σ H Q I ⟨ρ, M, env, rh, re, ?_⟩
    have e : eOp fIxA a' b' env M = eOp fIx a' b' env M := by
      unfold eOp
      cases h1 : a' env M with
      | ok d M1 =>
        show (b' env M1).bind _ = (b' env M1).bind _
        cases h2 : b' env M1 with
        | ok y M2 => exact fIxA_not fun k l hx hm => hd ⟨M1, y, M2, k, l, by rw [h1, hx], h2, hm⟩
        | _ => rfl
      | _ => rfl
    rw [← e]
    exact p⟩
/-- x in y, y of any kind -/
def fInGA (g : Bool → Bool) (x y : MV) (M : Hm) : R MV := match y with
  | .ref k => (match M[k]? with
    | some (.dic l) => if isKey x then .ok (.bl (g (getD l x).isSome)) M else .bad
    | _ => fInG g x y M)
  | _ => fInG g x y M
abbrev fInA := fInGA id
abbrev fNotInA := fInGA not
theorem fInA_not {g : Bool → Bool} {x y : MV} {M : Hm} (h : ∀ k l, y = .ref k → M[k]? ≠ some (.dic l)) : fInGA g x y M = fInG g x y M := by
  unfold fInGA
  cases y with
  | ref k =>
    show (match M[k]? with
      | some (.dic l) => if isKey x then R.ok (MV.bl (g (getD l x).isSome)) M else R.bad
      | _ => fInG g x (.ref k) M) = _
    cases hm : M[k]? with
    | none => rfl
    | some o =>
      cases o with
      | dic l => exact absurd hm (h k l rfl)
      | _ => rfl
  | _ => rfl
theorem eOp_not {g : Bool → Bool} {a' b' : Fe} {env : Env} {M : Hm} (hd : ¬ ∃ M1 x M2 k l, a' env M = .ok x M1 ∧ b' env M1 = .ok (.ref k) M2 ∧ M2[k]? = some (.dic l)) : eOp (fInGA g) a' b' env M = eOp (fInG g) a' b' env M := by
  unfold eOp
  cases h1 : a' env M with
  | ok d M1 =>
    show (b' env M1).bind _ = (b' env M1).bind _
    cases h2 : b' env M1 with
    | ok y M2 => exact fInA_not fun k l hx hm => hd ⟨M1, d, M2, k, l, h1, by rw [h2, hx], hm⟩
    | _ => rfl
  | _ => rfl
/-- the reading of k in d from the small language's -/
theorem din_read {g : Bool → Bool} {a' b' : Fe} {σ : L2.St} {H : Hp} {Q : VK} {ρ : List Addr} {M : Hm} {env : Env} {G : MX → Hm → List Addr → Hp → Prop} (rh : RH C ρ H M) (re : RE C.K H ρ env σ) (hd : ∃ M1 x M2 k l, a' env M = .ok x M1 ∧ b' env M1 = .ok (.ref k) M2 ∧ M2[k]? = some (.dic l))
    (p : Post C ρ H (eOp (fInGA g) a' b' env M) (Fv C Q) G) (hG : ∀ x M' ρ' H', Ext C.K ρ ρ' H H' → RH C ρ' H' M' → G x M' ρ' H' → ∀ cls dd, RX C H' ρ' x cls dd → W cls dd σ H') :
    tE C W a' σ H fun y H1 => tE C W b' σ H1 fun x H2 => ∃ a o, x = .ref a ∧ DGet H2 a y o ∧ Q (.bl (g o.isSome)) H2 := by
  obtain ⟨M1, x, M2, k, l, h1, h2, h3⟩ := hd
  have p : Post C ρ H ((a' env M).bind fun x M1 => (b' env M1).bind fun y M2 => fInGA g x y M2) (Fv C Q) (fun x M' ρ' H' => ∀ cls dd, RX C H' ρ' x cls dd → W cls dd σ H') := p.imp (fun _ _ _ _ _ _ q => q) hG
  refine ⟨ρ, M, env, rh, re, p.bind.impE (fun d M1' ρ1 H1 q1 e1 rh1 p2 v rv => ?_) (fun _ _ _ _ _ _ q => q)⟩
  rw [h1] at q1
  cases q1
  refine ⟨ρ1, M1, env, rh1, re.mono e1, p2.bind.impE (fun y' M2' ρ2 H2 q2 e2 rh2 p3 w rw_ => ?_) (fun _ _ _ _ _ _ q => q)⟩
  rw [h2] at q2
  cases q2
  rw [rv_ref] at rw_
  obtain ⟨ad, hra, rfl⟩ := rw_
  obtain ⟨ks, q1, q2⟩ := rh2.at h3 hra
  unfold fInGA at p3
  simp only [h3] at p3
  split at p3
  · rename_i hk
    obtain ⟨k', hk'⟩ := key_is hk
    have hg := RK.get hk' q2
    refine ⟨ad, valV ks k', rfl, ?_, ?_⟩
    · rw [key_rv hk' (rv.mono e2)]
      exact DGet.k q1
    · have e : (valV ks k').isSome = (getD l x).isSome := by
        cases hx : getD l x with
        | none => rw [hx] at hg; rw [hg]; rfl
        | some d => rw [hx] at hg; obtain ⟨v, hv, _⟩ := hg; rw [hv]; rfl
      rw [e]
      exact p3.val rh2 (rv_bl.mpr rfl)
  · exact p3.elim
theorem m_inA {a b : Expr} {a' b' : Fe} {pos : Pos} (hu : X.A.units + 64 < cLine) (hC : C.K = X.K) (ha : PE X a (tE C W a')) (hb : PE X b (tE C W b')) (hm : behindInMarks .In b = false := by first | exact nomark _ | rfl) : PE X (.Compare a [.In] [b] pos) (tE C W (eOp fInA a' b')) := ⟨fun pins s σ H Q I h => by
  obtain ⟨ρ, M, env, rh, re, p⟩ := h
  by_cases hd : ∃ M1 x M2 k l, a' env M = .ok x M1 ∧ b' env M1 = .ok (.ref k) M2 ∧ M2[k]? = some (.dic l)
  · exact (pe_cmp (pc_din (by omega) ha hb) hm).run pins s σ H Q I (din_read (g := id) rh re hd p fun _ _ _ _ _ _ q => q)
  · exact (m_cmp op_inM (hC ▸ sim_in) ha hb hm).run pins s σ H Q I ⟨ρ, M, env, rh, re, by rw [← eOp_not hd]; exact p⟩⟩
theorem m_notInA {a b : Expr} {a' b' : Fe} {pos : Pos} (hu : X.A.units + 64 < cLine) (hC : C.K = X.K) (ha : PE X a (tE C W a')) (hb : PE X b (tE C W b')) (hm : behindInMarks .NotIn b = false := by first | exact nomark _ | rfl) : PE X (.Compare a [.NotIn] [b] pos) (tE C W (eOp fNotInA a' b')) := ⟨fun pins s σ H Q I h => by
  obtain ⟨ρ, M, env, rh, re, p⟩ := h
  by_cases hd : ∃ M1 x M2 k l, a' env M = .ok x M1 ∧ b' env M1 = .ok (.ref k) M2 ∧ M2[k]? = some (.dic l)
  · exact (pe_cmp (pc_dnotin (by omega) ha hb) hm).run pins s σ H Q I (din_read (g := not) rh re hd p fun _ _ _ _ _ _ q => q)
  · exact (m_cmp op_notInM (hC ▸ sim_notIn) ha hb hm).run pins s σ H Q I ⟨ρ, M, env, rh, re, by rw [← eOp_not hd]; exact p⟩⟩
theorem cB_post {r : R MV} {ρ : List Addr} {H : Hp} {F : Bool → Hm → List Addr → Hp → Prop} {G : MX → Hm → List Addr → Hp → Prop} (p : Post C ρ H (r.bind fun x M1 => match x with
  | .bl b => .ok b M1
  | _ => .bad) F G) : Post C ρ H r (fun x M' ρ' H' => ∃ b, x = .bl b ∧ F b M' ρ' H') G := p.bind.imp (fun x M' ρ' H' e rh q => by
    cases x with
    | bl b => exact ⟨b, rfl, Post.now q rh⟩
    | _ => exact q.elim) fun _ _ _ _ _ _ q => q
theorem tB_read {e' : Fe} {σ : L2.St} {H : Hp} {Q : Bool → Hp → Prop} (h : tT C W (cB e') σ H Q) : tE C W e' σ H fun x H1 => ∃ c, x = .bl c ∧ Q c H1 := by
  obtain ⟨ρ, M, env, rh, re, p⟩ := h
  refine ⟨ρ, M, env, rh, re, (cB_post p).imp (fun x M' ρ' H' e rh' q v rv => ?_) fun _ _ _ _ _ _ q => q⟩
  obtain ⟨b, rfl, hF⟩ := q
  rw [rv_bl] at rv
  exact ⟨b, rv, hF b rfl⟩
theorem mt_inA {a b : Expr} {a' b' : Fe} {pos : Pos} (hu : X.A.units + 64 < cLine) (hC : C.K = X.K) (ha : PE X a (tE C W a')) (hb : PE X b (tE C W b')) (hm : behindInMarks .In b = false := by first | exact nomark _ | rfl) : PT X (.Compare a [.In] [b] pos) (tT C W (cB (eOp fInA a' b'))) := ⟨fun pins s σ H Q I h => by
  have h2 := tB_read h
  obtain ⟨ρ, M, env, rh, re, p⟩ := h
  obtain ⟨ρ2, M2, env2, rh2, re2, p2⟩ := h2
  by_cases hd : ∃ M1 x M2 k l, a' env M = .ok x M1 ∧ b' env M1 = .ok (.ref k) M2 ∧ M2[k]? = some (.dic l)
  · refine (pt_cmp (pc_din (by omega) ha hb) hm).run pins s σ H Q I ?_
    exact din_read (g := id) (Q := fun x H1 => ∃ c, x = V.bl c ∧ Q c H1) rh re hd ((cB_post p).imp (fun x M' ρ' H' e rh' q v rv => by
      obtain ⟨b, rfl, hF⟩ := q
      rw [rv_bl] at rv
      exact ⟨b, rv, hF b rfl⟩) fun _ _ _ _ _ _ q => q) fun _ _ _ _ _ _ q => q
  · refine (mt_cmp op_inM (hC ▸ sim_in) ha hb hm).run pins s σ H Q I ⟨ρ, M, env, rh, re, ?_⟩
    have e : cB (eOp fInA a' b') env M = cB (eOp fIn a' b') env M := by unfold cB; rw [eOp_not hd]
    rw [← e]
    exact p⟩
theorem mt_notInA {a b : Expr} {a' b' : Fe} {pos : Pos} (hu : X.A.units + 64 < cLine) (hC : C.K = X.K) (ha : PE X a (tE C W a')) (hb : PE X b (tE C W b')) (hm : behindInMarks .NotIn b = false := by first | exact nomark _ | rfl) : PT X (.Compare a [.NotIn] [b] pos) (tT C W (cB (eOp fNotInA a' b'))) := ⟨fun pins s σ H Q I h => by
  obtain ⟨ρ, M, env, rh, re, p⟩ := h
  by_cases hd : ∃ M1 x M2 k l, a' env M = .ok x M1 ∧ b' env M1 = .ok (.ref k) M2 ∧ M2[k]? = some (.dic l)
  · refine (pt_cmp (pc_dnotin (by omega) ha hb) hm).run pins s σ H Q I ?_
    exact din_read (g := not) (Q := fun x H1 => ∃ c, x = V.bl c ∧ Q c H1) rh re hd ((cB_post p).imp (fun x M' ρ' H' e rh' q v rv => by
      obtain ⟨b, rfl, hF⟩ := q
      rw [rv_bl] at rv
      exact ⟨b, rv, hF b rfl⟩) fun _ _ _ _ _ _ q => q) fun _ _ _ _ _ _ q => q
  · refine (mt_cmp op_notInM (hC ▸ sim_notIn) ha hb hm).run pins s σ H Q I ⟨ρ, M, env, rh, re, ?_⟩
    have e : cB (eOp fNotInA a' b') env M = cB (eOp fNotIn a' b') env M := by unfold cB; rw [eOp_not hd]
    rw [← e]
    exact p⟩
end
end Mi
set_option maxRecDepth 100000
/-! More of dicts, lists, comparisons. -/
namespace Mi
open PySem PySem.Spec PyProof.Rows L2
set_option maxRecDepth 8000 in
theorem list_extend_tup (l : Addr) (items : Array Value) (n : Nat) (b : Addr) (items2 : Array Value) (n2 : Nat) (dd : Option Addr) (sl : Array (Option Value)) (hs0 : ¬(!items.isEmpty && Builtin.List.listTooLong (items.size + items2.size)) = true) (hs1 : items.size ≤ sizeLine) (hs2 : items.size + items2.size ≤ sizeLine + 1 := by seq_fits) :
    Meets (Builtin.«list.extend» ⟨[.ref l, .ref b], []⟩) (fun _ R s => s.heap.get? l = some { cls := .type "list", dict := none, data := .seq items n, slots := #[] } ∧ s.heap.get? b = some { cls := .type "tuple", dict := dd, data := .seq items2 n2, slots := sl } ∧ R (.ok (.ret Value.none)) { s with heap := s.heap.update l (Obj.mapSeq fun x => x ++ items2), toks := s.toks }) :=
  .of_wp fun prog w A R s h => by
    obtain ⟨hp, g, d, tk, os⟩ := s
    obtain ⟨hl, hb, h⟩ := h
    have f1 := AutoSeq1.idx_int
    have f2 := AutoSeq1.sub_tuple_tuple
    have f3 := AutoSeq1.sub_list_list
    have f4 := AutoSeq1.sub_tuple_list
    have f5 := AutoSeq1.sub_list_tuple
    have hz' : (items ++ items2).size ≤ sizeLine + 1 := by rw [Array.size_append]; exact hs2
    wp_walk using (wpAny_updateSeq hl rfl (hz := hs1) (_hz' := hz')), AutoSeq1.wpAny_loadPart' hl, AutoSeq1.wpAny_loadPart' hb
    exact ⟨_, rfl, h⟩
section
variable {X : Cx}
def rExtendM (K : PySem.W.Frag) : V → List V → Hp → VK → Prop := fun x vs H Q => ∃ l b xs zs, x = .ref l ∧ vs = [.ref b] ∧ H l = some (.lst xs) ∧ (H b = some (.lst zs) ∨ SqT K H b zs) ∧ xs.length + zs.length ≤ sizeLine ∧ Q .non (upd H l (.lst (xs ++ zs)))
theorem mt_extendM : MtM X "list.extend" (rExtendM X.K) := by
  intro pins s σ H x vs v us Q I rx rv h
  obtain ⟨l, b, xs, zs, rfl, rfl, hH, hB, hz, q⟩ := h
  rcases hB with hB | hB
  · exact mt_extend pins s σ H (.ref l) [.ref b] v us Q I rx rv ⟨l, b, xs, zs, rfl, rfl, hH, hB, hz, q⟩
  cases rx
  obtain ⟨u, rfl, ru⟩ := rv.one
  cases ru
  obtain ⟨z, its, n, r, hl, e⟩ := I.lstM hH
  obtain ⟨its2, r2, ⟨⟨oc, od, odt, osl⟩, e2, hc2, n2, hd2⟩, hl2⟩ := I.tuple hB
  have hc2 : oc = .type "tuple" := hc2
  have hd2 : odt = .seq its2.toArray n2 := hd2
  subst hc2
  subst hd2
  have hlen2 := r2.length
  have hsz : its.toArray.size + its2.toArray.size ≤ sizeLine := by rw [List.size_toArray, List.size_toArray]; omega
  have hlong : ¬ (!its.toArray.isEmpty && Builtin.List.listTooLong (its.toArray.size + its2.toArray.size)) = true := by
    rw [notLongL hsz, Bool.and_false]
    exact Bool.false_ne_true
  refine call_meets F.slot_list_extend ⟨_, e, rfl⟩ F.entry_list_extend (F.args_list_extend_2 _ _)
    (list_extend_tup l its.toArray n b its2.toArray n2 od osl hlong (by rw [List.size_toArray]; omega) (by omega)) ⟨e, e2, ?_⟩
  refine ⟨.non, _, I.lset (its' := its ++ its2) hH e (by simp) (r.append r2) ?_, rfl, q⟩
  rw [List.length_append]
  omega
end
/-- xs.extend(ys), ys a list or a tuple -/
def fExtend : MV → List MV → Hm → R MV
  | .ref i, [.tup t], M => match M[i]? with
    | some (.lst s) => if s.length + t.length ≤ SL then .ok .non (M.set i (.lst (s ++ t))) else .bad
    | _ => .bad
  | .ref i, [.ref j], M => match M[i]?, M[j]? with
    | some (.lst s), some (.lst t) => if s.length + t.length ≤ SL then .ok .non (M.set i (.lst (s ++ t))) else .bad
    | _, _ => .bad
  | _, _, _ => .bad
theorem sim_extend {C : Cfg} : SimM C fExtend (rExtendM C.K) := by
  intro ρ H M d ds x xs Q G rh rx rxs p
  unfold fExtend at p
  split at p
  · rename_i i t
    obtain ⟨v, rfl, rv⟩ := one_rv rxs
    rw [rv_ref] at rx
    obtain ⟨a, ha, rfl⟩ := rx
    rw [rv_tup] at rv
    obtain ⟨b, zs, rfl, h1, h2⟩ := rv
    split at p
    · rename_i s hm
      obtain ⟨ys, q1, q2⟩ := rh.at hm ha
      split at p
      · rename_i hl
        exact ⟨a, b, ys, zs, rfl, rfl, q1, .inr h1, by rw [q2.len, h2.len, sizeLine_eq]; exact hl, p.setL rh ha (q2.app h2) (rv_non.mpr rfl)⟩
      · exact p.elim
    · exact p.elim
  · rename_i i j
    obtain ⟨v, rfl, rv⟩ := one_rv rxs
    rw [rv_ref] at rx rv
    obtain ⟨a, ha, rfl⟩ := rx
    obtain ⟨b, hb, rfl⟩ := rv
    split at p
    · rename_i s t hm hm2
      obtain ⟨ys, q1, q2⟩ := rh.at hm ha
      obtain ⟨zs, q3, q4⟩ := rh.at hm2 hb
      split at p
      · rename_i hl
        exact ⟨a, b, ys, zs, rfl, rfl, q1, .inl q3, by rw [q2.len, q4.len, sizeLine_eq]; exact hl, p.setL rh ha (q2.app q4) (rv_non.mpr rfl)⟩
      · exact p.elim
    · exact p.elim
  · exact p.elim
/-- xs.insert(i, y), i from 0 on -/
def fInsert : MV → List MV → Hm → R MV
  | .ref k, [.int i, y], M => match M[k]? with
    | some (.lst s) => if decide (s.length < SL) && decide (0 ≤ i) && decide (i.natAbs < 1073741824) then .ok .non (M.set k (.lst (s.take i.toNat ++ [y] ++ s.drop i.toNat))) else .bad
    | _ => .bad
  | _, _, _ => .bad
def rInsert : V → List V → Hp → VK → Prop := fun x vs H Q => ∃ (l : Addr) (xs : List V) (i : Int) (y : V), x = .ref l ∧ vs = [.int i, y] ∧ H l = some (.lst xs) ∧ xs.length < sizeLine ∧ 0 ≤ i ∧ i < 2 ^ 63 ∧
    Q .non (upd H l (.lst (xs.take i.toNat ++ [y] ++ xs.drop i.toNat)))
theorem mt_insertM {X : Cx} : MtR X "list.insert" rInsert := mt_insert
theorem sim_insert {C : Cfg} : SimM C fInsert rInsert := by
  intro ρ H M d ds x xs Q G rh rx rxs p
  unfold fInsert at p
  split at p
  · rename_i k i y
    obtain ⟨v, w, rfl, rv, rw_⟩ := two_rv rxs
    rw [rv_ref] at rx
    rw [rv_int] at rv
    subst rv
    obtain ⟨a, ha, rfl⟩ := rx
    split at p
    · rename_i s hm
      obtain ⟨ys, q1, q2⟩ := rh.at hm ha
      split at p
      · rename_i hl
        simp only [Bool.and_eq_true, decide_eq_true_eq] at hl
        exact ⟨a, ys, i, w, rfl, rfl, q1, by rw [q2.len, sizeLine_eq]; exact hl.1.1, hl.1.2, by omega, p.setL rh ha (((q2.take _).snoc rw_).app (q2.drop _)) (rv_non.mpr rfl)⟩
      · exact p.elim
    · exact p.elim
  · exact p.elim

/-! ### is, is not -/
def fIsG (g : Bool → Bool) : MV → MV → Hm → R MV
  | .bl a, .bl b, M => .ok (.bl (g (decide (a = b)))) M
  | .non, .non, M => .ok (.bl (g true)) M
  | .bl _, .non, M => .ok (.bl (g false)) M
  | .int _, .non, M => .ok (.bl (g false)) M
  | .str _, .non, M => .ok (.bl (g false)) M
  | .tup _, .non, M => .ok (.bl (g false)) M
  | .ref _, .non, M => .ok (.bl (g false)) M
  | .rol _, .non, M => .ok (.bl (g false)) M
  | _, _, _ => .bad
abbrev fIs := fIsG id
abbrev fIsNot := fIsG not
def rIsM (g : Bool → Bool) : R2 := fun x y H Q => (y = .non ∧ Q (.bl (g (decide (x = .non)))) H) ∨ ∃ a b, x = .bl a ∧ y = .bl b ∧ Q (.bl (g (decide (a = b)))) H
theorem op_isM {X : Cx} : OpR X (compareOp .Is) (rIsM id) := op_isN.or op_is_bl
theorem op_isNotM {X : Cx} : OpR X (compareOp .IsNot) (rIsM not) := op_notN.or op_isnot_bl
theorem sim_isG {C : Cfg} {g : Bool → Bool} : Sim2 C (fIsG g) (rIsM g) := by
  intro ρ H M d e x y Q G rh rx ry p
  unfold fIsG at p
  split at p
  · rw [rv_bl] at rx ry; subst rx; subst ry
    exact .inr ⟨_, _, rfl, rfl, p.val rh (rv_bl.mpr rfl)⟩
  · rw [rv_non] at rx ry; subst rx; subst ry
    exact .inl ⟨rfl, by rw [decide_eq_true rfl]; exact p.val rh (rv_bl.mpr rfl)⟩
  · rw [rv_bl] at rx; rw [rv_non] at ry; subst rx; subst ry
    exact .inl ⟨rfl, by rw [decide_eq_false (by simp)]; exact p.val rh (rv_bl.mpr rfl)⟩
  · rw [rv_int] at rx; rw [rv_non] at ry; subst rx; subst ry
    exact .inl ⟨rfl, by rw [decide_eq_false (by simp)]; exact p.val rh (rv_bl.mpr rfl)⟩
  · rw [rv_str] at rx; rw [rv_non] at ry; subst rx; subst ry
    exact .inl ⟨rfl, by rw [decide_eq_false (by simp)]; exact p.val rh (rv_bl.mpr rfl)⟩
  · rw [rv_tup] at rx; rw [rv_non] at ry
    obtain ⟨a, xs, rfl, _, _⟩ := rx
    subst ry
    exact .inl ⟨rfl, by rw [decide_eq_false (by simp)]; exact p.val rh (rv_bl.mpr rfl)⟩
  · rw [rv_ref] at rx; rw [rv_non] at ry
    obtain ⟨a, _, rfl⟩ := rx
    subst ry
    exact .inl ⟨rfl, by rw [decide_eq_false (by simp)]; exact p.val rh (rv_bl.mpr rfl)⟩
  · rw [rv_rol] at rx; rw [rv_non] at ry
    obtain ⟨a, xs, rfl, _, _⟩ := rx
    subst ry
    exact .inl ⟨rfl, by rw [decide_eq_false (by simp)]; exact p.val rh (rv_bl.mpr rfl)⟩
  · exact p.elim

/-! ### a op b op c -/
def eChain (f g : MV → MV → Hm → R MV) (a b c : Fe) : Fe := fun env M => (a env M).bind fun x M1 => (b env M1).bind fun y M2 => (f x y M2).bind fun z M3 => match z with
  | .bl true => (c env M3).bind fun w M4 => g y w M4
  | .bl false => .ok (.bl false) M3
  | _ => .bad
section
variable {X : Cx} {C : Cfg} {W : WX}
theorem chain_read {r r' : R2} {f g : MV → MV → Hm → R MV} {a' b' c' : Fe} {σ : L2.St} {H : Hp} {Q : VK} (hs : Sim2 C f r) (hs' : Sim2 C g r') (h : tE C W (eChain f g a' b' c') σ H Q) : tChain r r' (tE C W a') (tE C W b') (tE C W c') σ H Q := by
  obtain ⟨ρ, M, env, rh, re, p⟩ := h
  refine ⟨ρ, M, env, rh, re, p.bind.imp (fun d M1 ρ1 H1 e1 rh1 p2 v rv => ?_) (fun _ _ _ _ _ _ q => q)⟩
  refine ⟨ρ1, M1, env, rh1, re.mono e1, p2.bind.imp (fun d2 M2 ρ2 H2 e2 rh2 p3 w rw_ => ?_) (fun _ _ _ _ _ _ q => q)⟩
  refine hs ρ2 H2 M2 d d2 v w _ _ rh2 (rv.mono e2) rw_ (p3.bind.imp (fun z M3 ρ3 H3 e3 rh3 p4 u ru => ?_) (fun _ _ _ _ _ _ q => q))
  cases z with
  | bl k =>
    rw [rv_bl] at ru
    refine ⟨k, ru, ?_⟩
    cases k with
    | true =>
      have p4 : Post C ρ3 H3 ((c' env M3).bind fun w M4 => g d2 w M4) _ _ := p4
      exact ⟨ρ3, M3, env, rh3, (re.mono ((e1.trans e2).trans e3)), p4.bind.imp (fun d5 M5 ρ5 H5 e5 rh5 p5 w5 rw5 => hs' ρ5 H5 M5 d2 d5 w w5 Q _ rh5 (rw_.mono (e3.trans e5)) rw5 p5) (fun _ _ _ _ _ _ q => q)⟩
    | false => exact Post.now p4 rh3 _ (rv_bl.mpr rfl)
  | _ => exact p4.elim
theorem m_chain {op op' : CmpOp} {r r' : R2} {f g : MV → MV → Hm → R MV} {a b c : Expr} {a' b' c' : Fe} {pos : Pos} (ho : OpR X (compareOp op) r) (hs : Sim2 C f r) (ho' : OpR X (compareOp op') r') (hs' : Sim2 C g r')
    (ha : PE X a (tE C W a')) (hb : PE X b (tE C W b')) (hc : PE X c (tE C W c')) (hm : lastMarks [op, op'] [b, c] = false := by with_unfolding_all rfl) : PE X (.Compare a [op, op'] [b, c] pos) (tE C W (eChain f g a' b' c')) :=
  PE.imp (pe_chain ho ho' ha hb hc hm) fun σ H Q h => chain_read hs hs' h
theorem mt_chain {op op' : CmpOp} {r r' : R2} {f g : MV → MV → Hm → R MV} {a b c : Expr} {a' b' c' : Fe} {pos : Pos} (ho : OpR X (compareOp op) r) (hs : Sim2 C f r) (ho' : OpR X (compareOp op') r') (hs' : Sim2 C g r')
    (ha : PE X a (tE C W a')) (hb : PE X b (tE C W b')) (hc : PE X c (tE C W c')) (hm : lastMarks [op, op'] [b, c] = false := by with_unfolding_all rfl) : PT X (.Compare a [op, op'] [b, c] pos) (tT C W (cB (eChain f g a' b' c'))) :=
  PT.imp (pt_chain ho ho' ha hb hc hm) fun σ H Q h => chain_read hs hs' (tB_read h)

/-! ### dicts -/
theorem Post.newD {ρ : List Addr} {H : Hp} {M : Hm} {Q : VK} {G : MX → Hm → List Addr → Hp → Prop} {l : List (MV × MV)} {ks : List (Key × V)} (p : Post C ρ H (.ok (.ref M.length) (M ++ [.dic l])) (Fv C Q) G) (h : RH C ρ H M) (r : RK C.K H ρ l ks) {a : Addr} (ha : H a = none) : Q (.ref a) (upd H a (.dK ks)) := by
  have e : Ext C.K ρ (ρ ++ [a]) H (upd H a (.dK ks)) := Ext.new1 (C := C) ha
  refine p _ _ e (h.push ha ⟨ks, upd_same, r.mo e.toMo⟩) (.ref a) (rv_ref.mpr ⟨a, ?_, rfl⟩)
  rw [← h.len, List.getElem?_append_right (Nat.le_refl _), Nat.sub_self]
  rfl
theorem RK.nil {K : PySem.W.Frag} {H : Hp} {ρ : List Addr} : RK K H ρ [] [] := by unfold RK; rfl
/-- {} -/
def eDic0 : Fe := fun _ M => .ok (.ref M.length) (M ++ [.dic []])
theorem m_dic0 {pos : Pos} : PE X (.Dict [] [] pos) (tE C W eDic0) := by
  refine PE.imp pe_dnewK fun σ H Q h => ?_
  obtain ⟨ρ, M, env, rh, re, p⟩ := h
  exact fun a ha => Post.newD (G := fun x _ ρ' H' => ∀ cls dd, RX C H' ρ' x cls dd → W cls dd σ H') p rh RK.nil ha
/-- the pairs of a display -/
def pPairs : List (Fe × Fe) → Env → Hm → R (List (MV × MV))
  | [], _, M => .ok [] M
  | (k, v) :: r, env, M => (k env M).bind fun x M1 => (v env M1).bind fun y M2 => (pPairs r env M2).bind fun l M3 => if isKey x then .ok ((x, y) :: l) M3 else .bad
def putAll (l : List (MV × MV)) : List (MV × MV) → List (MV × MV)
  | [] => l
  | (k, d) :: r => putAll (putD l k d) r
def eDic (ps : List (Fe × Fe)) : Fe := fun env M => (pPairs ps env M).bindN fun l M1 => .ok (.ref M1.length) (M1 ++ [.dic (putAll [] l)])
/-- pairs, as values -/
def RPs (K : PySem.W.Frag) (H : Hp) (ρ : List Addr) : List (MV × MV) → List (V × V) → Prop
  | [], ks => ks = []
  | (k, d) :: r, ks => ∃ x y t, ks = (x, y) :: t ∧ RV K H ρ k x ∧ RV K H ρ d y ∧ RPs K H ρ r t
theorem RPs.mono {K : PySem.W.Frag} {H H' : Hp} {ρ ρ' : List Addr} (e : Ext K ρ ρ' H H') : ∀ {l : List (MV × MV)} {ks : List (V × V)}, RPs K H ρ l ks → RPs K H' ρ' l ks
  | [], _, h => h
  | (k, d) :: r, ks, h => by
    obtain ⟨x, y, t, h1, h2, h3, h4⟩ := h
    exact ⟨x, y, t, h1, h2.mono e, h3.mono e, RPs.mono e h4⟩
/-- all keys are keys -/
def allKeys (l : List (MV × MV)) : Bool := l.all fun p => isKey p.1
theorem RPs.keys {K : PySem.W.Frag} {H : Hp} {ρ : List Addr} : ∀ {l : List (MV × MV)} {ks : List (V × V)}, RPs K H ρ l ks → allKeys l = true → ∃ kvs : List (Key × V), ks = kvs.map (fun kv => (kV kv.1, kv.2)) ∧ RK K H ρ l kvs
  | [], ks, h, _ => by
    unfold RPs at h
    subst h
    exact ⟨[], rfl, RK.nil⟩
  | (k, d) :: r, ks, h, hk => by
    obtain ⟨x, y, t, rfl, h2, h3, h4⟩ := h
    have hk : (isKey k && r.all fun p => isKey p.1) = true := hk
    rw [Bool.and_eq_true] at hk
    obtain ⟨kvs, rfl, rk⟩ := RPs.keys h4 hk.2
    obtain ⟨k', hk'⟩ := key_is hk.1
    refine ⟨(k', y) :: kvs, ?_, ?_⟩
    · rw [List.map_cons, key_rv hk' h2]
    · unfold RK
      exact ⟨k', y, kvs, rfl, hk', h3, rk⟩
theorem RK.merge {K : PySem.W.Frag} {H : Hp} {ρ : List Addr} : ∀ {l : List (MV × MV)} {kvs : List (Key × V)} {l0 : List (MV × MV)} {kv0 : List (Key × V)}, RK K H ρ l kvs → RK K H ρ l0 kv0 → RK K H ρ (putAll l0 l) (mergeK kv0 kvs)
  | [], kvs, l0, kv0, h, h0 => by unfold RK at h; subst h; exact h0
  | (k, d) :: r, kvs, l0, kv0, h, h0 => by
    unfold RK at h
    obtain ⟨k', v, t, rfl, h1, h2, h3⟩ := h
    show RK K H ρ (putAll (putD l0 k d) r) (mergeK (putK kv0 k' v) t)
    exact RK.merge h3 (RK.put h1 h2 h0)
theorem pPairs_keys : ∀ {ps : List (Fe × Fe)} {env : Env} {M M1 : Hm} {l : List (MV × MV)}, pPairs ps env M = .ok l M1 → allKeys l = true ∧ l.length = ps.length
  | [], env, M, M1, l, h => by cases h; exact ⟨rfl, rfl⟩
  | (k, v) :: r, env, M, M1, l, h => by
    unfold pPairs at h
    cases h1 : k env M with
    | ok x Ma =>
      rw [h1] at h
      have h : ((v env Ma).bind fun y M2 => (pPairs r env M2).bind fun l M3 => if isKey x then R.ok ((x, y) :: l) M3 else .bad) = .ok l M1 := h
      cases h2 : v env Ma with
      | ok y Mb =>
        rw [h2] at h
        have h : ((pPairs r env Mb).bind fun l M3 => if isKey x then R.ok ((x, y) :: l) M3 else .bad) = .ok l M1 := h
        cases h3 : pPairs r env Mb with
        | ok l2 Mc =>
          rw [h3] at h
          have h : (if isKey x then R.ok ((x, y) :: l2) Mc else .bad) = .ok l M1 := h
          by_cases hk : isKey x
          · rw [if_pos hk] at h
            cases h
            obtain ⟨q1, q2⟩ := pPairs_keys h3
            exact ⟨by show (isKey x && allKeys l2) = true; rw [hk, q1]; rfl, by rw [List.length_cons, List.length_cons, q2]⟩
          · rw [if_neg hk] at h; cases h
        | exc _ _ => rw [h3] at h; cases h
        | bad => rw [h3] at h; cases h
      | exc _ _ => rw [h2] at h; cases h
      | bad => rw [h2] at h; cases h
    | exc _ _ => rw [h1] at h; cases h
    | bad => rw [h1] at h; cases h
theorem pairs_read {σ : L2.St} {E : MX → List Addr → Hp → Prop} (hE : ∀ x ρ' H', E x ρ' H' → ∀ cls dd, RX C H' ρ' x cls dd → W cls dd σ H') : ∀ {ps : List (Fe × Fe)} {ρ : List Addr} {H : Hp} {M : Hm} {env : Env} {Q : List (V × V) → Hp → Prop}, RH C ρ H M → RE C.K H ρ env σ →
    Post C ρ H (pPairs ps env M) (fun l _ ρ' H' => ∀ vs, RPs C.K H' ρ' l vs → Q vs H') (fun x _ ρ' H' => E x ρ' H') → tPairs (ps.map fun p => (tE C W p.1, tE C W p.2)) σ H Q
  | [], ρ, H, M, env, Q, rh, re, p => by
    show Q [] H
    exact p.now rh [] rfl
  | (k, v) :: r, ρ, H, M, env, Q, rh, re, p => by
    unfold pPairs at p
    refine ⟨ρ, M, env, rh, re, p.bind.imp (fun d M1 ρ1 H1 e1 rh1 p2 x rx => ?_) (fun x _ ρ' H' _ _ q => hE x ρ' H' q)⟩
    refine ⟨ρ1, M1, env, rh1, re.mono e1, p2.bind.imp (fun d2 M2 ρ2 H2 e2 rh2 p3 y ry => ?_) (fun x _ ρ' H' _ _ q => hE x ρ' H' q)⟩
    refine pairs_read hE rh2 ((re.mono e1).mono e2) (p3.bind.imp (fun l M3 ρ3 H3 e3 rh3 p4 vs rvs => ?_) (fun _ _ _ _ _ _ q => q))
    by_cases hk : isKey d
    · rw [if_pos hk] at p4
      exact p4.now rh3 ((x, y) :: vs) ⟨x, y, vs, rfl, rx.mono (e2.trans e3), ry.mono e3, rvs⟩
    · rw [if_neg hk] at p4
      exact p4.elim
theorem m_dic {keys : List (Option Expr)} {values : List Expr} {ps : List (Fe × Fe)} {pos : Pos} (h : PPs X pos keys values (ps.map fun p => (tE C W p.1, tE C W p.2))) (hn : ps.length ≤ 15 := by decide) (hall : keys.all (·.isSome) = true := by rfl) (hl : keys.length = values.length := by rfl) (h0 : keys ≠ [] := by simp)
    (h15 : keys.length ≤ 15 := by decide) : PE X (.Dict keys values pos) (tE C W (eDic ps)) := by
  refine PE.imp (pe_disp h hall hl h0 h15) fun σ H Q h => ?_
  obtain ⟨ρ, M, env, rh, re, p⟩ := h
  intro D hD
  have e0 : Ext C.K ρ ρ H (upd H D (.dK [])) := Ext.new (C := C) hD
  have mu : ∀ {zs : List (Key × V)}, Mut (some (.dK zs)) := fun {_} => trivial
  have p : Post C ρ (er (upd H D (.dK [])) D) ((pPairs ps env M).bindN fun l M1 => .ok (.ref M1.length) (M1 ++ [.dic (putAll [] l)])) (fun d _ ρ' H' => ∀ v, RV C.K H' ρ' d v → Q v H') (fun x _ ρ' H' => ∀ cls dd, RX C H' ρ' x cls dd → W cls dd σ H') := by
    rw [er_upd, er_free hD]; exact p
  have p2 := Post.er mu upd_same (rh.fresh hD) p.bindN
  refine pairs_read (W := W) (E := fun _ _ _ => False) (fun _ _ _ q => q.elim) (rh.beside hD) (re.mono e0) (p2.impE (fun l M1 ρ1 H1 hr e1 rh1 ⟨hD1, nD1, p3⟩ vs rvs => ⟨hD1, ?_⟩) (fun _ _ _ _ _ _ q => q))
  obtain ⟨hk, hlen⟩ := pPairs_keys hr
  obtain ⟨kvs, rfl, rk⟩ := rvs.keys hk
  refine ⟨kvs, rfl, by rw [rk.len, hlen]; exact hn, ?_⟩
  have rk2 : RK C.K H1 ρ1 (putAll [] l) (mergeK [] kvs) := RK.merge rk RK.nil
  have rhE := rh1.er nD1 mu hD1
  have p3 : Post C ρ1 (er H1 D) (.ok (.ref M1.length) (M1 ++ [.dic (putAll [] l)])) (Fv C Q) (fun x _ ρ' H' => ∀ cls dd, RX C H' ρ' x cls dd → W cls dd σ H') := p3
  have q1 : Mo C.K ρ1 ρ1 H1 (er H1 D) := ⟨List.prefix_refl _, fun a xs q => SqT.er mu hD1 q, fun a xs q => FzL.er mu hD1 q⟩
  have q := Post.newD p3 rhE (rk2.mo q1) (er_self (H := H1) (D := D))
  rw [upd_er] at q
  exact q
/-- d[k] = v, of dicts and of lists -/
def sPutA (a b v : Fe) : Fs := fun env M => (v env M).st env fun z M1 => (a env M1).st env fun x M2 => (b env M2).st env fun y M3 => match x with
  | .ref k => (match M3[k]? with
    | some (.dic l) => if isKey y && decide (l.length < SL) then .ok .nx env (M3.set k (.dic (putD l y z))) else .bad
    | _ => .bad)
  | _ => .bad
theorem m_putD {a b v : Expr} {a' b' v' : Fe} {pos pos' : Pos} (hu : X.A.units + 64 < cLine) (ha : PE X a (tE C W a')) (hb : PE X b (tE C W b')) (hv : PE X v (tE C W v')) (hs : swapsWith v (some (.Subscript a b pos')) pos.line X.env = pure false := by rfl) :
    PS X (.Assign [.Subscript a b pos'] v pos) (tS C W (sPutA a' b' v')) := by
  refine PS.imp (ps_dput (by omega) ha hb hv hs) fun D σ H h => ?_
  obtain ⟨ρ, M, env, rh, re, p⟩ := h
  refine ⟨ρ, M, env, rh, re, (p.st re).imp (fun z M1 ρ1 H1 e1 rh1 p1 vz rz => ?_) (fun _ _ _ _ _ _ q => q)⟩
  refine ⟨ρ1, M1, env, rh1, re.mono e1, (p1.st (re.mono e1)).imp (fun x M2 ρ2 H2 e2 rh2 p2 vx rx => ?_) (fun _ _ _ _ _ _ q => q)⟩
  refine ⟨ρ2, M2, env, rh2, (re.mono e1).mono e2, (p2.st ((re.mono e1).mono e2)).imp (fun y M3 ρ3 H3 e3 rh3 p3 vy ry => ?_) (fun _ _ _ _ _ _ q => q)⟩
  cases x with
  | ref k =>
    simp only at p3
    cases hm : M3[k]? with
    | none => rw [hm] at p3; exact p3.elim
    | some o =>
      rw [hm] at p3
      cases o with
      | dic l =>
        have p3 : PostS C ρ3 H3 (if isKey y && decide (l.length < SL) then .ok .nx env (M3.set k (.dic (putD l y z))) else .bad) D W := p3
        by_cases hk : isKey y && decide (l.length < SL)
        · rw [if_pos hk] at p3
          rw [Bool.and_eq_true, decide_eq_true_eq] at hk
          obtain ⟨k', hk'⟩ := key_is hk.1
          have rx := rx.mono e3
          rw [rv_ref] at rx
          obtain ⟨ad, hra, rfl⟩ := rx
          obtain ⟨ks, q1, q2⟩ := rh3.at hm hra
          have e4 : Ext C.K ρ3 ρ3 H3 (upd H3 ad (.dK (putK ks k' vz))) := Ext.wr (C := C) q1 trivial (List.mem_of_getElem? hra)
          refine ⟨ad, _, rfl, ?_, p3 ρ3 _ σ e4 (rh3.set hra ⟨_, upd_same, (RK.put hk' (rz.mono (e2.trans e3)) q2).mo e4.toMo⟩) (((re.mono e1).mono e2).mono (e3.trans e4))⟩
          rw [key_rv hk' ry]
          exact DPut.k q1 (by rw [q2.len, sizeLine_eq]; exact hk.2)
        · rw [if_neg hk] at p3; exact p3.elim
      | _ => exact p3.elim
  | _ => exact p3.elim
/-- d.get(k, x) -/
def eGet2 (a b c : Fe) : Fe := fun env M => (a env M).bind fun x M1 => match x with
  | .ref k => (match M1[k]? with
    | some (.dic _) => (b env M1).bind fun y M2 => (c env M2).bind fun z M3 => (match M3[k]? with
      | some (.dic l) => if isKey y then .ok ((getD l y).getD z) M3 else .bad
      | _ => .bad)
    | _ => .bad)
  | _ => .bad
theorem m_get2 {a b c : Expr} {a' b' c' : Fe} {apos cpos : Pos} (hu : X.A.units + 64 < cLine) (ha : PE X a (tE C W a')) (hb : PE X b (tE C W b')) (hc : PE X c (tE C W c')) (m : M2 X a "get" apos b c cpos := by exact ⟨by rfl, by rfl, by rfl, by rfl⟩) :
    PE X (.Call (.Attribute a "get" apos) [b, c] [] cpos) (tE C W (eGet2 a' b' c')) := by
  refine PE.imp (pe_dget2 (by omega) ha hb hc m) fun σ H Q h => ?_
  obtain ⟨ρ, M, env, rh, re, p⟩ := h
  refine ⟨ρ, M, env, rh, re, p.bind.imp (fun x M1 ρ1 H1 e1 rh1 p1 vx rx => ?_) (fun _ _ _ _ _ _ q => q)⟩
  cases x with
  | ref k =>
    simp only at p1
    cases hm : M1[k]? with
    | none => rw [hm] at p1; exact p1.elim
    | some o =>
      rw [hm] at p1
      cases o with
      | dic l0 =>
        have p1 : Post C ρ1 H1 ((b' env M1).bind fun y M2 => (c' env M2).bind fun z M3 => (match M3[k]? with
          | some (.dic l) => if isKey y then .ok ((getD l y).getD z) M3 else .bad
          | _ => .bad)) _ _ := p1
        have rx0 := rx
        rw [rv_ref] at rx0
        obtain ⟨ad, hra, rfl⟩ := rx0
        obtain ⟨ks0, q01, _⟩ := rh1.at hm hra
        refine ⟨ad, rfl, .inl ⟨ks0, .inl q01⟩, ?_⟩
        refine ⟨ρ1, M1, env, rh1, re.mono e1, p1.bind.imp (fun y M2 ρ2 H2 e2 rh2 p2 vy ry => ?_) (fun _ _ _ _ _ _ q => q)⟩
        refine ⟨ρ2, M2, env, rh2, (re.mono e1).mono e2, p2.bind.imp (fun z M3 ρ3 H3 e3 rh3 p3 vz rz => ?_) (fun _ _ _ _ _ _ q => q)⟩
        have rx3 := (rx.mono e2).mono e3
        rw [rv_ref] at rx3
        obtain ⟨ad3, hra3, had3⟩ := rx3
        cases had3
        cases hm3 : M3[k]? with
        | none => rw [hm3] at p3; exact p3.elim
        | some o3 =>
          rw [hm3] at p3
          cases o3 with
          | dic l =>
            have p3 : Post C ρ3 H3 (if isKey y then .ok ((getD l y).getD z) M3 else .bad) (Fv C Q) (fun x _ ρ' H' => ∀ cls dd, RX C H' ρ' x cls dd → W cls dd σ H') := p3
            by_cases hk : isKey y
            · rw [if_pos hk] at p3
              obtain ⟨k', hk'⟩ := key_is hk
              obtain ⟨ks, q1, q2⟩ := rh3.at hm3 hra3
              have hg := RK.get hk' q2
              refine ⟨valV ks k', ?_, ?_⟩
              · rw [key_rv hk' ry]
                exact DGet.k q1
              · cases hd : getD l y with
                | none =>
                  rw [hd] at hg p3
                  rw [hg]
                  exact p3.val rh3 rz
                | some d =>
                  rw [hd] at hg p3
                  obtain ⟨v, hv, rv2⟩ := hg
                  rw [hv]
                  exact p3.val rh3 rv2
            · rw [if_neg hk] at p3; exact p3.elim
          | _ => exact p3.elim
      | _ => exact p1.elim
  | _ => exact p1.elim
end
/-- dict(d) -/
def fDict : List MV → Hm → R MV
  | [.ref k], M => match M[k]? with
    | some (.dic l) => .ok (.ref M.length) (M ++ [.dic l])
    | _ => .bad
  | _, _ => .bad
abbrev rDictD : List V → Hp → VK → Prop := fun xs H Q => ∃ (a : Addr) (kvs : List (Key × V)), xs = [.ref a] ∧ Rd H a (.dK kvs) ∧ ∀ p, H p = none → Q (.ref p) (upd H p (.dK kvs))
theorem call_dictM {X : Cx} : CallR X (.type "dict") rDictD := call_dictD
theorem sim_dict {C : Cfg} : SimC C fDict rDictD := by
  intro ρ H M ds xs Q G rh rxs p
  unfold fDict at p
  split at p
  · rename_i k
    obtain ⟨v, rfl, rv⟩ := one_rv rxs
    rw [rv_ref] at rv
    obtain ⟨a, ha, rfl⟩ := rv
    split at p
    · rename_i l hm
      obtain ⟨ks, q1, q2⟩ := rh.at hm ha
      exact ⟨a, ks, rfl, .inl q1, fun q hq => p.newD rh q2 hq⟩
    · exact p.elim
  · exact p.elim
/-! ### sorted texts -/
def insT (x : Tx) : List Tx → List Tx
  | [] => [x]
  | y :: l => if y < x then y :: insT x l else x :: y :: l
def sortT : List Tx → List Tx
  | [] => []
  | x :: l => insT x (sortT l)
def strsOf (l : List MV) : Option (List Tx) := textsOf l
def keysOf (l : List (MV × MV)) : Option (List Tx) := textsOf (l.map (·.1))
def fSorted : List MV → Hm → R MV
  | [.ref k], M => match M[k]? with
    | some (.dic l) => (match keysOf l with
      | some ts => if ts.length < 64 then .ok (.ref M.length) (M ++ [.lst ((sortT ts).map MV.str)]) else .bad
      | none => .bad)
    | some (.lst l) => (match textsOf l with
      | some ts => if ts.length < 64 then .ok (.ref M.length) (M ++ [.lst ((sortT ts).map MV.str)]) else .bad
      | none => .bad)
    | _ => .bad
  | _, _ => .bad
theorem tx_irr (a : Tx) : ¬ a < a := List.lt_irrefl a
theorem tx_trans {a b c : Tx} (h : a < b) (h2 : b < c) : a < c := List.lt_trans h h2
theorem tx_total {a b : Tx} (h : ¬ a < b) (h2 : ¬ b < a) : a = b := List.le_antisymm (show a ≤ b from h2) (show b ≤ a from h)
theorem tx_le_lt {a b c : Tx} (h : ¬ b < a) (h2 : b < c) : a < c := by
  by_cases e : a < b
  · exact tx_trans e h2
  · rw [tx_total e h]; exact h2
theorem insT_comm (x y : Tx) : ∀ l : List Tx, insT x (insT y l) = insT y (insT x l)
  | [] => by
    simp only [insT]
    by_cases h : y < x
    · rw [if_pos h, if_neg (fun z => tx_irr _ (tx_trans h z))]
    · rw [if_neg h]
      by_cases h2 : x < y
      · rw [if_pos h2]
      · rw [if_neg h2, tx_total h2 h]
  | z :: l => by
    simp only [insT]
    by_cases h1 : z < y
    · by_cases h2 : z < x
      · simp only [if_pos h1, if_pos h2, insT, insT_comm x y l]
      · have h3 : x < y := tx_le_lt h2 h1
        simp only [if_pos h1, if_neg h2, insT, if_pos h3]
    · by_cases h2 : z < x
      · have h3 : y < x := tx_le_lt h1 h2
        simp only [if_neg h1, if_pos h2, insT, if_pos h3]
      · simp only [if_neg h1, if_neg h2, insT]
        by_cases h : y < x
        · rw [if_pos h, if_neg (fun z => tx_irr _ (tx_trans h z))]
        · rw [if_neg h]
          by_cases h2 : x < y
          · rw [if_pos h2]
          · rw [if_neg h2, tx_total h2 h]
theorem sortT_perm {a b : List Tx} (h : a.Perm b) : sortT a = sortT b := by
  induction h with
  | nil => rfl
  | cons x _ ih => simp only [sortT, ih]
  | swap x y l => simp only [sortT]; exact insT_comm y x _
  | trans _ _ ih1 ih2 => exact ih1.trans ih2
theorem sortT_rising : ∀ (x : Tx) (l : List Tx), risingS (T x) (l.map T) = true → sortT (x :: l) = x :: l
  | x, [], _ => rfl
  | x, y :: l, h => by
    have h : (!ltCps (T y).cps.toList (T x).cps.toList && risingS (T y) (l.map T)) = true := h
    rw [Bool.and_eq_true, T_list, T_list, ltCps_eq] at h
    show insT x (sortT (y :: l)) = x :: y :: l
    rw [sortT_rising y l h.2]
    simp only [insT]
    rw [if_neg (by simpa using h.1)]
theorem strs_T : ∀ ys : List Str, ∃ l : List Tx, ys = l.map T
  | [] => ⟨[], rfl⟩
  | y :: ys => by
    obtain ⟨l, rfl⟩ := strs_T ys
    obtain ⟨t, rfl⟩ := T_surj y
    exact ⟨t :: l, rfl⟩
theorem perm_T {a b : List Tx} (h : (a.map T).Perm (b.map T)) : a.Perm b := by
  have e : ∀ l : List Tx, (l.map T).map (fun s : Str => s.cps.toList) = l := fun l => by
    induction l with
    | nil => rfl
    | cons x l ih => rw [List.map_cons, List.map_cons, ih, T_list]
  have := h.map (fun s : Str => s.cps.toList)
  rw [e, e] at this
  exact this
theorem sort_one {ts : List Tx} {ys : List Str} (hp : ys.Perm (ts.map T)) (hs : sortedS ys = true) : ys = (sortT ts).map T := by
  obtain ⟨l, rfl⟩ := strs_T ys
  rw [← sortT_perm (perm_T hp)]
  cases l with
  | nil => rfl
  | cons x l => rw [sortT_rising x l hs]
theorem rvs_strs {K : PySem.W.Frag} {H : Hp} {ρ : List Addr} : ∀ ts : List Tx, RVs K H ρ (ts.map MV.str) ((ts.map T).map V.str)
  | [] => RVs.nil
  | t :: ts => RVs.cons (rv_str.mpr rfl) (rvs_strs ts)
theorem RK.keysOf {K : PySem.W.Frag} {H : Hp} {ρ : List Addr} : ∀ {l : List (MV × MV)} {ks : List (Key × V)} {ts : List Tx}, RK K H ρ l ks → keysOf l = some ts → ks.map (·.1) = (ts.map T).map Sum.inr
  | [], ks, ts, h, e => by
    unfold RK at h
    subst h
    cases e
    rfl
  | (k, d) :: r, ks, ts, h, e => by
    unfold RK at h
    obtain ⟨k', v, t, rfl, h1, h2, h3⟩ := h
    unfold Mi.keysOf textsOf at e
    rw [List.map_cons, List.mapM_cons] at e
    cases k with
    | str s =>
      cases hr : Mi.keysOf r with
      | none =>
        unfold Mi.keysOf textsOf at hr
        rw [hr] at e
        cases e
      | some us =>
        have ih := RK.keysOf h3 hr
        unfold Mi.keysOf textsOf at hr
        rw [hr] at e
        cases e
        cases h1
        rw [List.map_cons, ih]
        rfl
    | _ => cases e
abbrev rSortM (K : PySem.W.Frag) : List V → Hp → VK → Prop := fun xs H Q => (∃ (a : Addr) (kvs : List (Key × V)) (ks : List Str), xs = [.ref a] ∧ Rd H a (.dK kvs) ∧ kvs.map (·.1) = ks.map Sum.inr ∧ ks.length < 64 ∧
    ∀ ys p, ys.Perm ks → sortedS ys = true → H p = none → Q (.ref p) (upd H p (.lst (ys.map V.str)))) ∨ rSortedS K xs H Q
theorem call_sortM {X : Cx} (hc : X.calm = true) : CallR X (.builtin "sorted") (rSortM X.K) := (call_sortedD hc).or cr_sortedS
theorem sim_sorted {C : Cfg} : SimC C fSorted (rSortM C.K) := by
  intro ρ H M ds xs Q G rh rxs p
  unfold fSorted at p
  split at p
  · rename_i k
    obtain ⟨v, rfl, rv⟩ := one_rv rxs
    rw [rv_ref] at rv
    obtain ⟨a, ha, rfl⟩ := rv
    split at p
    · rename_i l hm
      obtain ⟨ks, q1, q2⟩ := rh.at hm ha
      split at p
      · rename_i ts hts
        split at p
        · rename_i h64
          refine .inl ⟨a, ks, ts.map T, rfl, .inl q1, q2.keysOf hts, by rw [List.length_map]; exact h64, fun ys q hp hs hq => ?_⟩
          rw [sort_one hp hs]
          exact p.newL rh (rvs_strs _) hq
        · exact p.elim
      · exact p.elim
    · rename_i l hm
      obtain ⟨ys0, q1, q2⟩ := rh.at hm ha
      split at p
      · rename_i ts hts
        split at p
        · rename_i h64
          have e := texts_rv q2 hts
          refine .inr ⟨a, ts.map T, rfl, by rw [← e]; exact SqL.of q1, by rw [List.length_map]; exact h64, fun ys q hp hs hq => ?_⟩
          rw [sort_one hp hs]
          exact p.newL rh (rvs_strs _) hq
        · exact p.elim
      · exact p.elim
    · exact p.elim
  · exact p.elim
end Mi
set_option maxRecDepth 100000
/-! Comprehensions of dicts, of two clauses. -/
namespace Mi
open PySem PySem.Spec PyProof.Rows L2
section
variable {X : Cx} {C : Cfg} {W : WX}
def dcGo (ni : Ni) (tg : Ftg) (c : Ft) (ek ev : Fe) (env0 : Env) : Nat → Nat → List (MV × MV) → Hm → R (List (MV × MV))
  | 0, _, _, _ => .bad
  | n + 1, k, acc, M => match ni M k with
    | none => .bad
    | some none => .ok acc M
    | some (some x) => (tg x env0 M).bindN fun env1 M1 => (c env1 M1).bindN fun b M2 =>
      if b then (ek env1 M2).bindN fun y M3 => (ev env1 M3).bindN fun z M4 => if isKey y && decide (acc.length < SL) then dcGo ni tg c ek ev env0 n (k + 1) (putD acc y z) M4 else .bad
      else dcGo ni tg c ek ev env0 n (k + 1) acc M2
def eDc (it : Fi) (tg : Ftg) (c : Ft) (ek ev : Fe) (vs : List Nat) : Fe := fun env M => (it env M).bind fun p M1 =>
  (dcGo p.1 tg c ek ev (wipeE env vs) p.2 0 [] M1).bind fun l M2 => .ok (.ref M2.length) (M2 ++ [.dic l])
theorem dc_read {Q : VK} {σ : L2.St} {H : Hp} {it : Fi} {g : Ftg} {c' : Ft} {k' e' : Fe} {vs : List Nat} (h : tE C W (eDc it g c' k' e' vs) σ H Q) : tDc (tIt C W it) (tGt C vs g) (tT C W0 c') (tE C W0 k') (tE C W0 e') vs σ H Q := by
  obtain ⟨ρ, M, env, rh, re, p⟩ := h
  refine ⟨ρ, M, env, rh, re, p.bind.imp (fun pn M1 ρ1 H1 e1 rh1 p2 J ok => ?_) (fun _ _ _ _ _ _ q => q)⟩
  obtain ⟨ni, n0⟩ := pn
  intro D hD
  have re1 : RE C.K H1 ρ1 (wipeE env vs) (wipe σ vs) := (re.mono e1).wipe vs
  refine ⟨fun i m H => ∃ ρ M acc ys, Ext C.K ρ1 ρ H1 (er H D) ∧ RH C ρ H M ∧ D ∉ ρ ∧ H D = some (.dK ys) ∧ RK C.K H ρ acc ys ∧
      Post C ρ (er H D) ((dcGo ni g c' k' e' (wipeE env vs) m i acc M).bind fun l M2 => .ok (.ref M2.length) (M2 ++ [.dic l])) (fun d _ ρ' H' => ∀ v, RV C.K H' ρ' d v → Q v H') (fun x _ ρ' H' => ∀ cls dd, RX C H' ρ' x cls dd → W cls dd σ H'),
    ⟨n0, ρ1, M1, [], [], ?_, rh1.beside hD, rh1.fresh hD, upd_same, RK.nil, ?_⟩, fun i m H h => ?_⟩
  · rw [er_upd, er_free hD]; exact Ext.refl
  · rw [er_upd, er_free hD]; exact p2
  obtain ⟨ρ, M, acc, ys, ex, rh, nD, hD2, ra, p⟩ := h
  have rhE := rh.er nD (show Mut (some (.dK ys)) from trivial) hD2
  have exH : Ext C.K ρ1 ρ H1 H := ex.trans (Ext.ofEr hD2)
  cases m with
  | zero => exact p.elim
  | succ n =>
    unfold dcGo at p
    cases hn : ni M i with
    | none => rw [hn] at p; exact p.elim
    | some o =>
      cases o with
      | none =>
        rw [hn] at p
        have p : Post C ρ (er H D) (.ok (.ref M.length) (M ++ [.dic acc])) (fun d _ ρ' H' => ∀ v, RV C.K H' ρ' d v → Q v H') (fun x _ ρ' H' => ∀ cls dd, RX C H' ρ' x cls dd → W cls dd σ H') := p
        refine .inl ⟨ok.stop ρ H M i exH.toMo rh hn, ?_⟩
        have q1 : Mo C.K ρ ρ H (er H D) := ⟨List.prefix_refl _, fun a xs q => SqT.er (show Mut (some (.dK ys)) from trivial) hD2 q, fun a xs q => FzL.er (show Mut (some (.dK ys)) from trivial) hD2 q⟩
        have q := Post.newD p rhE (ra.mo q1) (er_self (H := H) (D := D))
        rw [er_back hD2] at q
        exact q
      | some x =>
        rw [hn] at p
        have p : Post C ρ (er H D) (((g x (wipeE env vs) M).bindN fun env1 M1 => (c' env1 M1).bindN fun b M2 => if b then (k' env1 M2).bindN fun y M3 => (e' env1 M3).bindN fun z M4 => if isKey y && decide (acc.length < SL) then dcGo ni g c' k' e' (wipeE env vs) n (i + 1) (putD acc y z) M4 else .bad else dcGo ni g c' k' e' (wipeE env vs) n (i + 1) acc M2).bind fun l M2 => .ok (.ref M2.length) (M2 ++ [.dic l])) (fun d _ ρ' H' => ∀ v, RV C.K H' ρ' d v → Q v H') (fun x _ ρ' H' => ∀ cls dd, RX C H' ρ' x cls dd → W cls dd σ H') := p
        rw [R.bindN_bind] at p
        have mu : ∀ {zs : List (Key × V)}, Mut (some (.dK zs)) := fun {_} => trivial
        refine .inr ⟨ok.go ρ H M i x exH.toMo rh hn, fun H => ∃ ρ M acc ys, Ext C.K ρ1 ρ H1 (er H D) ∧ RH C ρ H M ∧ D ∉ ρ ∧ H D = some (.dK ys) ∧ RK C.K H ρ acc ys ∧
          Post C ρ (er H D) ((dcGo ni g c' k' e' (wipeE env vs) n (i + 1) acc M).bind fun l M2 => .ok (.ref M2.length) (M2 ++ [.dic l])) (fun d _ ρ' H' => ∀ v, RV C.K H' ρ' d v → Q v H') (fun x _ ρ' H' => ∀ cls dd, RX C H' ρ' x cls dd → W cls dd σ H'), fun H' h => ⟨n, Nat.lt_succ_self n, h⟩, fun v H' hy => ?_⟩
        obtain ⟨e2, rh2, rv⟩ := ok.yld ρ H M i x v H' exH.toMo rh hn hy
        obtain ⟨e2E, hD3, _⟩ := e2.er mu hD2 nD
        have ra2 := ra.mo e2.toMo
        refine ⟨ρ, M, wipeE env vs, x, _, rh2, re1.mono (exH.trans e2), rv, (Post.er mu hD3 nD (p.ext e2E).bindN).imp (fun env1 M2 ρ2 H2 e3 rh3 ⟨hD4, nD4, p3⟩ σ2 re3 hw => ?_) (fun _ _ _ _ _ _ q => q)⟩
        refine ⟨hw.trans (wipe_wipe σ vs), ?_⟩
        have ra3 := ra2.mo e3.toMo
        have ex3 := (ex.trans e2E).trans (e3.er mu hD3 nD).1
        rw [R.bindN_bind] at p3
        refine ⟨ρ2, M2, env1, rh3, re3, (Post.er mu hD4 nD4 p3.bindN).imp (fun b M3 ρ3 H3 e4 rh4 ⟨hD5, nD5, p4⟩ b' hb => ?_) (fun _ _ _ _ _ _ q => q.elim)⟩
        subst hb
        have ra4 := ra3.mo e4.toMo
        have ex4 := ex3.trans (e4.er mu hD4 nD4).1
        cases b' with
        | false =>
          exact ⟨ρ3, M3, acc, ys, ex4, rh4, nD5, hD5, ra4, p4⟩
        | true =>
          have p4 : Post C ρ3 (er H3 D) (((k' env1 M3).bindN fun y M3 => (e' env1 M3).bindN fun z M4 => if isKey y && decide (acc.length < SL) then dcGo ni g c' k' e' (wipeE env vs) n (i + 1) (putD acc y z) M4 else .bad).bind fun l M2 => .ok (.ref M2.length) (M2 ++ [.dic l])) (fun d _ ρ' H' => ∀ v, RV C.K H' ρ' d v → Q v H') (fun x _ ρ' H' => ∀ cls dd, RX C H' ρ' x cls dd → W cls dd σ H') := p4
          rw [R.bindN_bind] at p4
          refine ⟨ρ3, M3, env1, rh4, re3.mono e4, (Post.er mu hD5 nD5 p4.bindN).imp (fun y M4 ρ4 H4 e5 rh5 ⟨hD6, nD6, p5⟩ w rw_ => ?_) (fun _ _ _ _ _ _ q => q.elim)⟩
          have ra5 := ra4.mo e5.toMo
          have ex5 := ex4.trans (e5.er mu hD5 nD5).1
          rw [R.bindN_bind] at p5
          refine ⟨ρ4, M4, env1, rh5, (re3.mono e4).mono e5, (Post.er mu hD6 nD6 p5.bindN).imp (fun z M5 ρ5 H5 e6 rh6 ⟨hD7, nD7, p6⟩ wz rz => ?_) (fun _ _ _ _ _ _ q => q.elim)⟩
          have ra6 := ra5.mo e6.toMo
          have ex6 := ex5.trans (e6.er mu hD6 nD6).1
          by_cases hl : isKey y && decide (acc.length < SL)
          · rw [if_pos hl] at p6
            rw [Bool.and_eq_true, decide_eq_true_eq] at hl
            obtain ⟨kk, hkk⟩ := key_is hl.1
            refine ⟨ys, kk, key_rv hkk rw_, hD7, by rw [ra6.len, sizeLine_eq]; exact hl.2, ρ5, M5, putD acc y z, putK ys kk wz, ?_, ?_, nD7, upd_same, ?_, ?_⟩
            · rw [er_upd]; exact ex6
            · have q := (rh6.er nD7 mu hD7).beside (o := .dK (putK ys kk wz)) (er_self (H := H5) (D := D))
              rw [upd_er] at q
              exact q
            · have m : Mo C.K ρ5 ρ5 H5 (upd H5 D (.dK (putK ys kk wz))) := by
                have q1 : Mo C.K ρ5 ρ5 H5 (er H5 D) := ⟨List.prefix_refl _, fun a xs q => SqT.er mu hD7 q, fun a xs q => FzL.er mu hD7 q⟩
                have q2 := (Ext.new (C := C) (ρ := ρ5) (o := .dK (putK ys kk wz)) (er_self (H := H5) (D := D))).toMo
                rw [upd_er] at q2
                exact ⟨List.prefix_refl _, fun a xs q => q2.tup a xs (q1.tup a xs q), fun a xs q => q2.fz a xs (q1.fz a xs q)⟩
              exact (RK.put hkk rz ra6).mo m
            · rw [er_upd]; exact p6
          · rw [if_neg hl] at p6
            exact p6.elim
theorem m_dc {kx vx tg iter : Expr} {ifs : List Expr} {scope : Scope} {own : List (Str × Nat)} {pos : Pos} {it : Fi} {g : Ftg} {c' : Ft} {k' e' : Fe} (hc : X.calm = true) (hN : X.N.Nodup) (hi : PI X tg iter (tIt C W it)) (ok : BlkOk X.N X.env.scope scope own)
    (hg : ∀ (s : Shared) (H : Hp) (C' : Addr) (cl : List (Str × Addr)) (fp : List Addr), PG (X.blk s H scope (compEnvC scope cl C' X.env) fp) tg (tGt C (own.map (·.2)) g)) (ht : ∀ (s : Shared) (H : Hp) (C' : Addr) (cl : List (Str × Addr)) (fp : List Addr), PTs (X.blk s H scope (compEnvC scope cl C' X.env) fp) ifs (tT C W0 c'))
    (hk : ∀ (s : Shared) (H : Hp) (C' : Addr) (cl : List (Str × Addr)) (fp : List Addr), PE (X.blk s H scope (compEnvC scope cl C' X.env) fp) kx (tE C W0 k'))
    (he : ∀ (s : Shared) (H : Hp) (C' : Addr) (cl : List (Str × Addr)) (fp : List Addr), PE (X.blk s H scope (compEnvC scope cl C' X.env) fp) vx (tE C W0 e')) (hs : ∀ x, foldedSetIterable iter X.env x = pure x := by intro _; rfl) :
    PE X (.DictComp kx vx [⟨tg, iter, ifs, 0⟩] scope pos) (tE C W (eDc it g c' k' e' (own.map (·.2)))) :=
  PE.imp (pe_dc hc hN hi ok hg ht hk he hs) fun σ H Q h => dc_read h

theorem sw_trueD {kx vx : Expr} {gs : List Comprehension} {scope : Scope} {pos py : Pos} {y : Str} {l : Nat} {env : PySem.Env} (hk : env.scope.kind = .function) (hy : env.scope.names.lookup y = some .local) (hl : (py.line == pos.line) = true)
    (ha : (scope.names.any fun (n, k) => n == y && (k == .local || k == .cell)) = false) : swapsWith (.DictComp kx vx gs scope pos) (some (.Name y py)) l env = pure true := by
  have ky : env.kindOf y = some .local := hy
  have hb : env.blockKind = .function := by unfold PySem.Env.blockKind; rw [hk]; rfl
  unfold swapsWith
  simp only [hb, ky, ha, Expr.pos, hl]
  rfl
theorem m_setDc {i : Nat} {y : Str} {py : Pos} {kx vx tg iter : Expr} {ifs : List Expr} {scope : Scope} {own : List (Str × Nat)} {pos spos : Pos} {it : Fi} {g : Ftg} {c' : Ft} {k' e' : Fe} (hc : X.calm = true) (hN : X.N.Nodup) (hyl : X.env.scope.names.lookup y = some .local)
    (hsw : swapsWith (.DictComp kx vx [⟨tg, iter, ifs, 0⟩] scope pos) (some (.Name y py)) spos.line X.env = pure true) (hi : PI X tg iter (tIt C W it)) (ok : BlkOk X.N X.env.scope scope own)
    (hg : ∀ (s : Shared) (H : Hp) (C' : Addr) (cl : List (Str × Addr)) (fp : List Addr), PG (X.blk s H scope (compEnvC scope cl C' X.env) fp) tg (tGt C (own.map (·.2)) g)) (ht : ∀ (s : Shared) (H : Hp) (C' : Addr) (cl : List (Str × Addr)) (fp : List Addr), PTs (X.blk s H scope (compEnvC scope cl C' X.env) fp) ifs (tT C W0 c'))
    (hk : ∀ (s : Shared) (H : Hp) (C' : Addr) (cl : List (Str × Addr)) (fp : List Addr), PE (X.blk s H scope (compEnvC scope cl C' X.env) fp) kx (tE C W0 k'))
    (he : ∀ (s : Shared) (H : Hp) (C' : Addr) (cl : List (Str × Addr)) (fp : List Addr), PE (X.blk s H scope (compEnvC scope cl C' X.env) fp) vx (tE C W0 e')) (hs : ∀ x, foldedSetIterable iter X.env x = pure x := by intro _; rfl) (hy : X.N[i]? = some y := by rfl) :
    PS X (.Assign [.Name y py] (.DictComp kx vx [⟨tg, iter, ifs, 0⟩] scope pos) spos) (tS C W (sSet i (eDc it g c' k' e' (own.map (·.2))))) := by
  refine ⟨fun pins s σ H D I h => ?_⟩
  obtain ⟨ρ, M, env, rh, re, p⟩ := h
  have p := (p.st re).imp (F' := fun d _ ρ' H' => ∀ v, RV C.K H' ρ' d v → D.nx (σ.set i (some v)) H') (fun d M1 ρ1 H1 e1 rh1 p2 v rv => p2.nx rh1 ((re.mono e1).set i rv)) (fun _ _ _ _ _ _ q => q)
  have h := dc_read (C := C) (W := W) (Q := fun v H' => D.nx (σ.set i (some v)) H') ⟨ρ, M, env, rh, re, p⟩
  rw [exec_Assign_Name_used _ _ _ _ hsw]
  refine wpAny_bind (wpAny_standAt (wpAny_bind ?_))
  show wpAny _ X.A (do let _ ← comprehension (.DictComp kx vx [⟨tg, iter, ifs, 0⟩] scope pos) scope X.env (firstIterPos [⟨tg, iter, ifs, 0⟩] pos) newDict false (eval iter X.env) (some (assign (.Name y py) X.env))) _ _ s
  refine wpAny_bind (thn (dc_core (Qf := fun _ s' => SP X pins D .next s') hc hN I hi ok hg ht hk he hs h fun L C' s' m H' I' q hn f => ?_) fun _ s' hq => wpAny_pure (wpAny_pure hq))
  show wpAny _ _ (assign (.Name y py) X.env (.ref L)) _ _ _
  refine wpAny_assign_Name (store_ok2 (v := V.ref L) I' hN hy (.inl hyl) rfl (fun s2 I2 ⟨a, sb, ha⟩ => ?_) (.inr hyl))
  obtain ⟨f0, f1, f2, f3, f4, f5⟩ := f
  have haC : C' ≠ a := by
    rcases ha with z | z
    · rw [z]; exact f1
    · exact fun e => f4 y a z e.symm
  refine ⟨m, hn.sameBut sb haC, fun h3 sb3 => ?_⟩
  exact ⟨_, H', I2.turned (t' := s2.toks) (fun b o hb e => (sb3.2 b hb).trans e) f0 f1 f3 f4 f5, q⟩

/-! ### two clauses -/
theorem R.bindN_bindN {α β γ : Type} (r : R α) (f : α → Hm → R β) (h : β → Hm → R γ) : (r.bindN f).bindN h = r.bindN fun a M => (f a M).bindN h := by
  cases r <;> rfl
def lc2Go (ni : Ni) (tg : Ftg) (c : Ft) (it1 : Fi) (tg1 : Ftg) (c1 : Ft) (e : Fe) (vs1 : List Nat) (env0 : Env) : Nat → Nat → List MV → Hm → R (List MV)
  | 0, _, _, _ => .bad
  | n + 1, k, acc, M => match ni M k with
    | none => .bad
    | some none => .ok acc M
    | some (some x) => (tg x env0 M).bindN fun env1 M1 => (c env1 M1).bindN fun b M2 =>
      if b then (it1 env1 M2).bindN fun p M3 => (lcGo p.1 tg1 c1 e (wipeE env1 vs1) p.2 0 acc M3).bindN fun acc' M4 => lc2Go ni tg c it1 tg1 c1 e vs1 env0 n (k + 1) acc' M4
      else lc2Go ni tg c it1 tg1 c1 e vs1 env0 n (k + 1) acc M2
def eLc2 (it : Fi) (tg : Ftg) (c : Ft) (it1 : Fi) (tg1 : Ftg) (c1 : Ft) (e : Fe) (vs vs1 : List Nat) : Fe := fun env M => (it env M).bind fun p M1 =>
  (lc2Go p.1 tg c it1 tg1 c1 e vs1 (wipeE env vs) p.2 0 [] M1).bind fun l M2 => .ok (.ref M2.length) (M2 ++ [.lst l])
theorem lc2_read {Q : VK} {σ : L2.St} {H : Hp} {it it1 : Fi} {g g1 : Ftg} {c' c1 : Ft} {e' : Fe} {vs vs1 : List Nat} (h : tE C W (eLc2 it g c' it1 g1 c1 e' vs vs1) σ H Q) :
    tLc2 (tIt C W it) (tGt C vs g) (tT C W0 c') (tIt C W0 it1) (tGt C vs1 g1) (tT C W0 c1) (tE C W0 e') vs vs1 σ H Q := by
  obtain ⟨ρ, M, env, rh, re, p⟩ := h
  refine ⟨ρ, M, env, rh, re, p.bind.imp (fun pn M1 ρ1 H1 e1 rh1 p2 J ok => ?_) (fun _ _ _ _ _ _ q => q)⟩
  obtain ⟨ni, n0⟩ := pn
  intro D hD
  have re1 : RE C.K H1 ρ1 (wipeE env vs) (wipe σ vs) := (re.mono e1).wipe vs
  have mu : ∀ {zs : List V}, Mut (some (.lst zs)) := fun {_} => trivial
  refine ⟨fun i m H => ∃ ρ M acc ys, Ext C.K ρ1 ρ H1 (er H D) ∧ RH C ρ H M ∧ D ∉ ρ ∧ H D = some (.lst ys) ∧ RVs C.K H ρ acc ys ∧
      Post C ρ (er H D) ((lc2Go ni g c' it1 g1 c1 e' vs1 (wipeE env vs) m i acc M).bind fun l M2 => .ok (.ref M2.length) (M2 ++ [.lst l])) (fun d _ ρ' H' => ∀ v, RV C.K H' ρ' d v → Q v H') (fun x _ ρ' H' => ∀ cls dd, RX C H' ρ' x cls dd → W cls dd σ H'),
    ⟨n0, ρ1, M1, [], [], ?_, rh1.beside hD, rh1.fresh hD, upd_same, RVs.nil, ?_⟩, fun i m H h => ?_⟩
  · rw [er_upd, er_free hD]; exact Ext.refl
  · rw [er_upd, er_free hD]; exact p2
  obtain ⟨ρ, M, acc, ys, ex, rh, nD, hD2, ra, p⟩ := h
  have rhE := rh.er nD (show Mut (some (.lst ys)) from trivial) hD2
  have exH : Ext C.K ρ1 ρ H1 H := ex.trans (Ext.ofEr hD2)
  cases m with
  | zero => exact p.elim
  | succ n =>
    unfold lc2Go at p
    cases hn : ni M i with
    | none => rw [hn] at p; exact p.elim
    | some o =>
      cases o with
      | none =>
        rw [hn] at p
        have p : Post C ρ (er H D) (.ok (.ref M.length) (M ++ [.lst acc])) (fun d _ ρ' H' => ∀ v, RV C.K H' ρ' d v → Q v H') (fun x _ ρ' H' => ∀ cls dd, RX C H' ρ' x cls dd → W cls dd σ H') := p
        refine .inl ⟨ok.stop ρ H M i exH.toMo rh hn, ?_⟩
        have q1 : Mo C.K ρ ρ H (er H D) := ⟨List.prefix_refl _, fun a xs q => SqT.er mu hD2 q, fun a xs q => FzL.er mu hD2 q⟩
        have q := Post.newL p rhE (ra.mo q1) (er_self (H := H) (D := D))
        rw [er_back hD2] at q
        exact q
      | some x =>
        rw [hn] at p
        have p : Post C ρ (er H D) (((g x (wipeE env vs) M).bindN fun env1 M1 => (c' env1 M1).bindN fun b M2 => if b then (it1 env1 M2).bindN fun p M3 => (lcGo p.1 g1 c1 e' (wipeE env1 vs1) p.2 0 acc M3).bindN fun acc' M4 => lc2Go ni g c' it1 g1 c1 e' vs1 (wipeE env vs) n (i + 1) acc' M4 else lc2Go ni g c' it1 g1 c1 e' vs1 (wipeE env vs) n (i + 1) acc M2).bind fun l M2 => .ok (.ref M2.length) (M2 ++ [.lst l])) (fun d _ ρ' H' => ∀ v, RV C.K H' ρ' d v → Q v H') (fun x _ ρ' H' => ∀ cls dd, RX C H' ρ' x cls dd → W cls dd σ H') := p
        rw [R.bindN_bind] at p
        refine .inr ⟨ok.go ρ H M i x exH.toMo rh hn, fun H => ∃ ρ M acc ys, Ext C.K ρ1 ρ H1 (er H D) ∧ RH C ρ H M ∧ D ∉ ρ ∧ H D = some (.lst ys) ∧ RVs C.K H ρ acc ys ∧
          Post C ρ (er H D) ((lc2Go ni g c' it1 g1 c1 e' vs1 (wipeE env vs) n (i + 1) acc M).bind fun l M2 => .ok (.ref M2.length) (M2 ++ [.lst l])) (fun d _ ρ' H' => ∀ v, RV C.K H' ρ' d v → Q v H') (fun x _ ρ' H' => ∀ cls dd, RX C H' ρ' x cls dd → W cls dd σ H'), fun H' h => ⟨n, Nat.lt_succ_self n, h⟩, fun v H' hy => ?_⟩
        obtain ⟨e2, rh2, rv⟩ := ok.yld ρ H M i x v H' exH.toMo rh hn hy
        obtain ⟨e2E, hD3, _⟩ := e2.er mu hD2 nD
        have ra2 := ra.mono e2
        refine ⟨ρ, M, wipeE env vs, x, _, rh2, re1.mono (exH.trans e2), rv, (Post.er mu hD3 nD (p.ext e2E).bindN).imp (fun env1 M2 ρ2 H2 e3 rh3 ⟨hD4, nD4, p3⟩ σ2 re3 hw => ?_) (fun _ _ _ _ _ _ q => q)⟩
        refine ⟨hw.trans (wipe_wipe σ vs), ?_⟩
        have ra3 := ra2.mono e3
        have ex3 := (ex.trans e2E).trans (e3.er mu hD3 nD).1
        rw [R.bindN_bind] at p3
        refine ⟨ρ2, M2, env1, rh3, re3, (Post.er mu hD4 nD4 p3.bindN).imp (fun b M3 ρ3 H3 e4 rh4 ⟨hD5, nD5, p4⟩ b' hb => ?_) (fun _ _ _ _ _ _ q => q.elim)⟩
        subst hb
        have ra4 := ra3.mono e4
        have ex4 := ex3.trans (e4.er mu hD4 nD4).1
        cases b' with
        | false =>
          exact ⟨ρ3, M3, acc, ys, ex4, rh4, nD5, hD5, ra4, p4⟩
        | true =>
          have p4 : Post C ρ3 (er H3 D) (((it1 env1 M3).bindN fun p M3 => (lcGo p.1 g1 c1 e' (wipeE env1 vs1) p.2 0 acc M3).bindN fun acc' M4 => lc2Go ni g c' it1 g1 c1 e' vs1 (wipeE env vs) n (i + 1) acc' M4).bind fun l M2 => .ok (.ref M2.length) (M2 ++ [.lst l])) (fun d _ ρ' H' => ∀ v, RV C.K H' ρ' d v → Q v H') (fun x _ ρ' H' => ∀ cls dd, RX C H' ρ' x cls dd → W cls dd σ H') := p4
          rw [R.bindN_bind] at p4
          have re4 : RE C.K H3 ρ3 env1 σ2 := re3.mono e4
          refine ⟨ρ3, M3, env1, rh4, re4, (Post.er mu hD5 nD5 p4.bindN).imp (fun pn1 M4 ρ4 H4 e5 rh5 ⟨hD6, nD6, p5⟩ J1 ok1 => ?_) (fun _ _ _ _ _ _ q => q.elim)⟩
          obtain ⟨ni1, n1⟩ := pn1
          have ra5 := ra4.mono e5
          have ex5 := ex4.trans (e5.er mu hD5 nD5).1
          have re5 : RE C.K H4 ρ4 (wipeE env1 vs1) (wipe σ2 vs1) := (re4.mono e5).wipe vs1
          refine ⟨fun j k H => ∃ ρ M acc ys, Mo C.K ρ4 ρ H4 H ∧ Ext C.K ρ1 ρ H1 (er H D) ∧ RH C ρ H M ∧ D ∉ ρ ∧ H D = some (.lst ys) ∧ RVs C.K H ρ acc ys ∧
              Post C ρ (er H D) (((lcGo ni1 g1 c1 e' (wipeE env1 vs1) k j acc M).bindN fun acc' M4 => lc2Go ni g c' it1 g1 c1 e' vs1 (wipeE env vs) n (i + 1) acc' M4).bind fun l M2 => .ok (.ref M2.length) (M2 ++ [.lst l])) (fun d _ ρ' H' => ∀ v, RV C.K H' ρ' d v → Q v H') (fun x _ ρ' H' => ∀ cls dd, RX C H' ρ' x cls dd → W cls dd σ H'),
            ⟨n1, ρ4, M4, acc, ys, Ext.refl.toMo, ex5, rh5, nD6, hD6, ra5, p5⟩, fun j k H hw1 => ?_⟩
          obtain ⟨ρ, M, acc, ys, exI, ex, rh, nD, hD2, ra, p⟩ := hw1
          cases k with
          | zero => exact p.elim
          | succ n2 =>
            unfold lcGo at p
            cases hn1 : ni1 M j with
            | none => rw [hn1] at p; exact p.elim
            | some o1 =>
              cases o1 with
              | none =>
                rw [hn1] at p
                exact .inl ⟨ok1.stop ρ H M j exI rh hn1, ρ, M, acc, ys, ex, rh, nD, hD2, ra, p⟩
              | some x1 =>
                rw [hn1] at p
                have p : Post C ρ (er H D) ((((g1 x1 (wipeE env1 vs1) M).bindN fun enva Ma => (c1 enva Ma).bindN fun b Mb => if b then (e' enva Mb).bindN fun y Mc => if acc.length < SL then lcGo ni1 g1 c1 e' (wipeE env1 vs1) n2 (j + 1) (acc ++ [y]) Mc else .bad else lcGo ni1 g1 c1 e' (wipeE env1 vs1) n2 (j + 1) acc Mb).bindN fun acc' M4 => lc2Go ni g c' it1 g1 c1 e' vs1 (wipeE env vs) n (i + 1) acc' M4).bind fun l M2 => .ok (.ref M2.length) (M2 ++ [.lst l])) (fun d _ ρ' H' => ∀ v, RV C.K H' ρ' d v → Q v H') (fun x _ ρ' H' => ∀ cls dd, RX C H' ρ' x cls dd → W cls dd σ H') := p
                rw [R.bindN_bindN, R.bindN_bind] at p
                refine .inr ⟨ok1.go ρ H M j x1 exI rh hn1, fun H => ∃ ρ M acc ys, Mo C.K ρ4 ρ H4 H ∧ Ext C.K ρ1 ρ H1 (er H D) ∧ RH C ρ H M ∧ D ∉ ρ ∧ H D = some (.lst ys) ∧ RVs C.K H ρ acc ys ∧
                  Post C ρ (er H D) (((lcGo ni1 g1 c1 e' (wipeE env1 vs1) n2 (j + 1) acc M).bindN fun acc' M4 => lc2Go ni g c' it1 g1 c1 e' vs1 (wipeE env vs) n (i + 1) acc' M4).bind fun l M2 => .ok (.ref M2.length) (M2 ++ [.lst l])) (fun d _ ρ' H' => ∀ v, RV C.K H' ρ' d v → Q v H') (fun x _ ρ' H' => ∀ cls dd, RX C H' ρ' x cls dd → W cls dd σ H'), fun H' h => ⟨n2, Nat.lt_succ_self n2, h⟩, fun v1 H' hy1 => ?_⟩
                obtain ⟨e2, rh2, rv⟩ := ok1.yld ρ H M j x1 v1 H' exI rh hn1 hy1
                obtain ⟨e2E, hD3, _⟩ := e2.er mu hD2 nD
                have ra2 := ra.mono e2
                refine ⟨ρ, M, wipeE env1 vs1, x1, _, rh2, re5.mo (exI.trans e2.toMo), rv, (Post.er mu hD3 nD (p.ext e2E).bindN).imp (fun enva Ma ρ2 H2 e3 rh3 ⟨hD4, nD4, p3⟩ σ3 re3 hw => ?_) (fun _ _ _ _ _ _ q => q)⟩
                refine ⟨hw.trans (wipe_wipe σ2 vs1), ?_⟩
                have ra3 := ra2.mono e3
                have ex3 := (ex.trans e2E).trans (e3.er mu hD3 nD).1
                have ex3' := (exI.trans e2.toMo).trans e3.toMo
                rw [R.bindN_bindN, R.bindN_bind] at p3
                refine ⟨ρ2, Ma, enva, rh3, re3, (Post.er mu hD4 nD4 p3.bindN).imp (fun b M3 ρ3 H3 e4 rh4 ⟨hD5, nD5, p4⟩ b' hb => ?_) (fun _ _ _ _ _ _ q => q.elim)⟩
                subst hb
                have ra4 := ra3.mono e4
                have ex4 := ex3.trans (e4.er mu hD4 nD4).1
                have ex4' := ex3'.trans e4.toMo
                cases b' with
                | false =>
                  exact ⟨ρ3, M3, acc, ys, ex4', ex4, rh4, nD5, hD5, ra4, p4⟩
                | true =>
                  have p4 : Post C ρ3 (er H3 D) ((((e' enva M3).bindN fun y Mc => if acc.length < SL then lcGo ni1 g1 c1 e' (wipeE env1 vs1) n2 (j + 1) (acc ++ [y]) Mc else .bad).bindN fun acc' M4 => lc2Go ni g c' it1 g1 c1 e' vs1 (wipeE env vs) n (i + 1) acc' M4).bind fun l M2 => .ok (.ref M2.length) (M2 ++ [.lst l])) (fun d _ ρ' H' => ∀ v, RV C.K H' ρ' d v → Q v H') (fun x _ ρ' H' => ∀ cls dd, RX C H' ρ' x cls dd → W cls dd σ H') := p4
                  rw [R.bindN_bindN, R.bindN_bind] at p4
                  refine ⟨ρ3, M3, enva, rh4, re3.mono e4, (Post.er mu hD5 nD5 p4.bindN).imp (fun y M4 ρ4 H4 e5 rh5 ⟨hD6, nD6, p5⟩ w rw_ => ?_) (fun _ _ _ _ _ _ q => q.elim)⟩
                  have ra5 := ra4.mono e5
                  have ex5 := ex4.trans (e5.er mu hD5 nD5).1
                  have ex5' := ex4'.trans e5.toMo
                  by_cases hl : acc.length < SL
                  · rw [if_pos hl] at p5
                    have m : Mo C.K ρ4 ρ4 H4 (upd H4 D (.lst (ys ++ [w]))) := by
                      have q1 : Mo C.K ρ4 ρ4 H4 (er H4 D) := ⟨List.prefix_refl _, fun a xs q => SqT.er mu hD6 q, fun a xs q => FzL.er mu hD6 q⟩
                      have q2 := (Ext.new (C := C) (ρ := ρ4) (o := .lst (ys ++ [w])) (er_self (H := H4) (D := D))).toMo
                      rw [upd_er] at q2
                      exact ⟨List.prefix_refl _, fun a xs q => q2.tup a xs (q1.tup a xs q), fun a xs q => q2.fz a xs (q1.fz a xs q)⟩
                    refine ⟨ys, hD6, by rw [ra5.len, sizeLine_eq]; exact hl, ρ4, M4, acc ++ [y], ys ++ [w], ?_, ?_, ?_, nD6, upd_same, ?_, ?_⟩
                    · exact ex5'.trans m
                    · rw [er_upd]; exact ex5
                    · have q := (rh5.er nD6 mu hD6).beside (o := .lst (ys ++ [w])) (er_self (H := H4) (D := D))
                      rw [upd_er] at q
                      exact q
                    · exact (ra5.snoc rw_).mo m
                    · rw [er_upd]; exact p5
                  · rw [if_neg hl] at p5
                    exact p5.elim
theorem m_lc2 {elt tg iter tg1 iter1 : Expr} {ifs ifs1 : List Expr} {scope : Scope} {own : List (Str × Nat)} {vs1 : List Nat} {pos : Pos} {it it1 : Fi} {g g1 : Ftg} {c' c1 : Ft} {e' : Fe} (hc : X.calm = true) (hN : X.N.Nodup) (hi : PI X tg iter (tIt C W it)) (ok : BlkOk X.N X.env.scope scope own) (hv : ∀ i ∈ vs1, i ∈ own.map (·.2))
    (hg : ∀ (s : Shared) (H : Hp) (C' : Addr) (cl : List (Str × Addr)) (fp : List Addr), PG (X.blk s H scope (compEnvC scope cl C' X.env) fp) tg (tGt C (own.map (·.2)) g)) (ht : ∀ (s : Shared) (H : Hp) (C' : Addr) (cl : List (Str × Addr)) (fp : List Addr), PTs (X.blk s H scope (compEnvC scope cl C' X.env) fp) ifs (tT C W0 c'))
    (hi1 : ∀ (s : Shared) (H : Hp) (C' : Addr) (cl : List (Str × Addr)) (fp : List Addr), PI (X.blk s H scope (compEnvC scope cl C' X.env) fp) tg1 iter1 (tIt C W0 it1))
    (hg1 : ∀ (s : Shared) (H : Hp) (C' : Addr) (cl : List (Str × Addr)) (fp : List Addr), PG (X.blk s H scope (compEnvC scope cl C' X.env) fp) tg1 (tGt C vs1 g1)) (ht1 : ∀ (s : Shared) (H : Hp) (C' : Addr) (cl : List (Str × Addr)) (fp : List Addr), PTs (X.blk s H scope (compEnvC scope cl C' X.env) fp) ifs1 (tT C W0 c1))
    (he : ∀ (s : Shared) (H : Hp) (C' : Addr) (cl : List (Str × Addr)) (fp : List Addr), PE (X.blk s H scope (compEnvC scope cl C' X.env) fp) elt (tE C W0 e')) (hs : ∀ x, foldedSetIterable iter X.env x = pure x := by intro _; rfl) (hs1 : ∀ env x, foldedSetIterable iter1 env x = pure x := by intro _ _; rfl) :
    PE X (.ListComp elt [⟨tg, iter, ifs, 0⟩, ⟨tg1, iter1, ifs1, 0⟩] scope pos) (tE C W (eLc2 it g c' it1 g1 c1 e' (own.map (·.2)) vs1)) :=
  PE.imp (pe_lc2 hc hN hi ok hv hg ht hi1 hg1 ht1 he hs hs1) fun σ H Q h => lc2_read h
/-! ### dicts of the text -/
structure WD (K : PySem.W.Frag) (w : World) (mg : Str → Option Value) (x : Str) (l : List (Tx × MV)) : Prop where
  at_ : ∃ p, mg x = some (.ref p) ∧ ∀ s d, l.lookup s = some d → ∃ v, KDct K w p (T s) v ∧ ∀ H ρ, RV K H ρ d v
def eKd (l : List (Tx × MV)) (a : Fe) : Fe := fun env M => (a env M).bind fun x M1 => match x with
  | .str s => (match l.lookup s with
    | some d => .ok d M1
    | none => .bad)
  | _ => .bad
theorem m_kd {x : Str} {l : List (Tx × MV)} {b : Expr} {b' : Fe} {p pos : Pos} (h : WD X.K X.w X.mg x l) (hC : C.K = X.K) (hb : PE X b (tE C W b')) (hg : Gl X x := by rfl) (hd : (x == ("__debug__" : Str)) = false := by decide) (hs : PlainIx b := by intro _ _; rfl) :
    PE X (.Subscript (.Name x p) b pos) (tE C W (eKd l b')) := by
  obtain ⟨q, hm, hq⟩ := h.at_
  refine PE.imp (pe_ix ix_kdict (pe_glob (v := .ref q) hg hm rfl hd) hb hs) fun σ H Q h => ?_
  obtain ⟨ρ, M, env, rh, re, p⟩ := h
  refine ⟨ρ, M, env, rh, re, p.bind.imp (fun y M1 ρ1 H1 e1 rh1 p1 vy ry => ?_) (fun _ _ _ _ _ _ q => q)⟩
  cases y with
  | str s =>
    have p1 : Post C ρ1 H1 (match l.lookup s with
      | some d => .ok d M1
      | none => .bad) (Fv C Q) (fun x _ ρ' H' => ∀ cls dd, RX C H' ρ' x cls dd → W cls dd σ H') := p1
    rw [rv_str] at ry
    subst ry
    cases hl : l.lookup s with
    | none => rw [hl] at p1; exact p1.elim
    | some d =>
      rw [hl] at p1
      obtain ⟨v, k, r⟩ := hq s d hl
      exact ⟨q, T s, v, rfl, rfl, k, p1.val rh1 (by rw [hC]; exact r H1 ρ1)⟩
  | _ => exact p1.elim
end
end Mi
set_option maxRecDepth 100000
/-! t[::-1] of tuples, list of a text. -/
namespace Mi
open PySem PySem.Spec PyProof.Rows L2 HT
section
variable {prog : Program} {w : World} {A : Around} {E : Value → Shared → Prop} {s : Shared}
theorem filterMap_cg {α β : Type} {f g : α → Option β} : ∀ {l : List α}, (∀ x ∈ l, f x = g x) → l.filterMap f = l.filterMap g
  | [], _ => rfl
  | x :: l, h => by
    rw [List.filterMap_cons, List.filterMap_cons, h x List.mem_cons_self, filterMap_cg fun y hy => h y (List.mem_cons_of_mem _ hy)]
theorem adj_rev (n : Nat) : Builtin.Slice.sliceAdjust none none (-1) (n : Int) = ((n : Int) - 1, -1) := by
  unfold Builtin.Slice.sliceAdjust
  simp
  try omega
theorem places_rev (n : Nat) : Builtin.Slice.slicePlaces ((n : Int) - 1) (-1) (-1) = n := by
  unfold Builtin.Slice.slicePlaces
  simp
  try omega
theorem sliceApplied_rev {sl : Addr} {vl vu vs : Value} {n : Nat} {Q : Int × Int × Nat → Shared → Prop} (hs : s.heap.IsSliceOf sl vl vu vs) (pl : IsPart vl none) (pu : IsPart vu none) (ps : IsPart vs (some (-1)))
    (h : Q ((n : Int) - 1, -1, n) s) : wpAny (model prog w) A (Builtin.Slice.sliceApplied (.ref sl) (pure (n : Int))) Q E s := by
  obtain ⟨os, hos, hcs, hds⟩ := id hs
  unfold Builtin.Slice.sliceApplied Builtin.Slice.sliceFields
  refine wpAny_bind (wpAny_bind (wpAny_field hos hds (x := vl) rfl (wpAny_bind (wpAny_field hos hds (x := vu) rfl (wpAny_bind (wpAny_field hos hds (x := vs) rfl (wpAny_pure ?_)))))))
  refine wpAny_bind (slicePart_ ps ?_)
  show wpAny _ _ (if ((-1 : Int) == 0) = true then _ else _) _ _ s
  rw [if_neg (by decide)]
  refine wpAny_bind (slicePart_ pl (wpAny_bind (slicePart_ pu (wpAny_bind (wpAny_pure ?_)))))
  show wpAny _ _ (match Builtin.Slice.sliceAdjust none none (-1) (n : Int) with | (lo, hi) => pure (lo, (-1 : Int), Builtin.Slice.slicePlaces lo hi (-1))) _ _ s
  rw [adj_rev n]
  show wpAny _ _ (pure ((n : Int) - 1, (-1 : Int), Builtin.Slice.slicePlaces ((n : Int) - 1) (-1) (-1))) _ _ s
  rw [places_rev]
  exact wpAny_pure h
theorem pick_rev (xs : Array Value) : ((List.range xs.size).filterMap fun (m : Nat) => xs[(((xs.size : Nat) : Int) - 1 + (m : Int) * (-1)).toNat]?).toArray = xs.toList.reverse.toArray := by
  congr 1
  have e : ((List.range xs.size).filterMap fun (m : Nat) => xs[(((xs.size : Nat) : Int) - 1 + (m : Int) * (-1)).toNat]?) = (List.range xs.size).filterMap fun m => xs.toList.reverse[m]? := by
    refine filterMap_cg fun m hm => ?_
    have hm := List.mem_range.mp hm
    have e1 : (((xs.size : Nat) : Int) - 1 + (m : Int) * (-1)).toNat = xs.size - 1 - m := by omega
    rw [e1, List.getElem?_reverse (by simpa using hm)]
    simp
  rw [e]
  have : ∀ l : List Value, (List.range l.length).filterMap (fun m => l[m]?) = l := by
    intro l
    refine List.ext_getElem? fun i => ?_
    induction l with
    | nil => rfl
    | cons a l ih =>
      rw [List.length_cons, List.range_succ_eq_map, List.filterMap_cons]
      simp only [List.getElem?_cons_zero, List.filterMap_map]
      cases i with
      | zero => rfl
      | succ i =>
        simp only [List.getElem?_cons_succ]
        have : ((fun m => (a :: l)[m]?) ∘ Nat.succ) = fun m => l[m]? := by
          funext m
          rfl
        rw [this]
        have hl : (List.range l.length).filterMap (fun m => l[m]?) = l := by
          clear ih
          induction l with
          | nil => rfl
          | cons b l ih2 =>
            rw [List.length_cons, List.range_succ_eq_map, List.filterMap_cons]
            simp only [List.getElem?_cons_zero, List.filterMap_map]
            have : ((fun m => (b :: l)[m]?) ∘ Nat.succ) = fun m => l[m]? := by
              funext m
              rfl
            rw [this, ih2]
            rfl
        rw [hl]
  have h := this xs.toList.reverse
  rw [List.length_reverse, Array.length_toList] at h
  exact h
theorem getItem_tuple_rev {t sl : Addr} {items : Array Value} {vl vu vs : Value} {Q : Value → Shared → Prop} (ht : IsTup s.heap t items) (hs : s.heap.IsSliceOf sl vl vu vs) (pl : IsPart vl none) (pu : IsPart vu none) (ps : IsPart vs (some (-1)))
    (h : Q (.ref s.heap.objs.size) { s with heap := s.heap.push { cls := .type "tuple", data := .seq items.toList.reverse.toArray } })
    (hsz : items.size ≤ sizeLine) : wpAny (model prog w) A (getItem (.ref t) (.ref sl)) Q E s := by
  have htake : sizeOk (.seq items.toList.reverse.toArray) := by
    show items.toList.reverse.toArray.size ≤ sizeLine
    rw [List.size_toArray, List.length_reverse, Array.length_toList]
    exact hsz
  obtain ⟨os, hos, hcs, hds⟩ := id hs
  have hTs : s.TypeIs (.ref sl) "slice" := ⟨os, hos, hcs⟩
  unfold getItem
  try with_reducible refine wpAny_holding ?_
  first | refine wpAny_bind (wpAny_pure ?_) | skip
  refine wpAny_bind (wpAny_sequenceKey ht.typeIs (by decide) ?_)
  refine wpAny_bind (wpAny_callSpecial?_slot (name := Str.ofString "__getitem__") ht.typeIs PyProof.Rows.slot_tuple_getitem
    (wpAny_call_entry PyProof.Rows.slot_tuple_getitem ht.typeIs entry_tuple_getitem ?_ (args_tuple_getitem _ _)))
  show wpAny _ _ (Builtin.Tuple.tupleItemsOf (.ref t) >>= _) _ _ s
  refine wpAny_bind (tupleItemsOf_ ht ?_)
  refine wpAny_bind (wpAny_typeOf hTs ?_)
  rw [if_pos (by decide)]
  refine wpAny_bind (sliceApplied_rev hs pl pu ps ?_)
  have hno : ¬ ((((items.size : Nat) : Int) - 1 == 0 && (-1 : Int) == 1 && items.size == items.size) = true) := by
    intro q
    rw [Bool.and_eq_true, Bool.and_eq_true] at q
    exact absurd q.1.2 (by decide)
  show wpAny _ _ (if (((items.size : Nat) : Int) - 1 == 0 && (-1 : Int) == 1 && items.size == items.size) = true then _ else _) _ _ s
  rw [if_neg hno, pick_rev]
  first
    | exact wpAny_bind (m := Builtin.Tuple.tupleExact _) (wpAny_newObj_type (wpAny_pure ⟨_, rfl, wpAny_pure h⟩) htake)
    | exact wpAny_bind (m := Builtin.Tuple.tupleExact _) (wpAny_newObj_type (wpAny_bind (wpAny_pure (wpAny_pure ⟨_, rfl, wpAny_pure h⟩))) htake)
    | exact wpAny_bind (wpAny_bind (m := Builtin.Tuple.tupleExact _) (wpAny_newObj_type (wpAny_pure (wpAny_pure ⟨_, rfl, wpAny_pure h⟩)) htake))
    | exact wpAny_bind (wpAny_bind (m := Builtin.Tuple.tupleExact _) (wpAny_newObj_type (wpAny_pure ⟨_, rfl, wpAny_pure h⟩) htake))
end
def tRevT (K : PySem.W.Frag) (te : TE) : TE := fun σ H Q => te σ H fun x H1 => ∃ a xs, x = .ref a ∧ ((SqL K H1 a xs ∧ ∀ p, H1 p = none → Q (.ref p) (upd H1 p (.lst xs.reverse))) ∨ (SqT K H1 a xs ∧ ∀ p, H1 p = none → Q (.ref p) (upd H1 p (.tup xs.reverse))))
theorem pe_revA {X : Cx} {e : Expr} {te : TE} {k : Nat} {p1 p2 p3 pos : Pos} (he : PE X e te) : PE X (.Subscript e (.Slice none none (some (.UnaryOp .USub (.Constant (.int 1) k p1) p2)) p3) pos) (tRevT X.K te) := by
  refine ⟨fun pins s σ H Q I h => ?_⟩
  refine Subscript_ (thn (he.run pins s σ H _ I h) fun v s1 ⟨x, H1, I1, r1, q1⟩ => ?_)
  obtain ⟨a, xs, ex, q⟩ := q1
  subst ex
  cases r1
  have hst : PO X (some (.UnaryOp .USub (.Constant (.int 1) k p1) p2)) (tPart (tUn (rU fun i => .int (-i)) (tC (.int 1)))) := po_some (pe_un un_neg pe_int)
  refine wpAny_Slice (thn (po_none.run pins s1 σ H1 (fun o H2 => o = none ∧ H2 = H1) I1 ⟨rfl, rfl⟩) fun vl s2 ⟨l, H2, I2, pl, el, e2⟩ => ?_)
  subst el e2
  refine thn (po_none.run pins s2 σ H2 (fun o H3 => o = none ∧ H3 = H2) I2 ⟨rfl, rfl⟩) fun vu s3 ⟨u, H3, I3, pu, eu, e3⟩ => ?_
  subst eu e3
  refine thn (hst.run pins s3 σ H3 (fun o H4 => o = some (-1) ∧ H4 = H3) I3 ⟨1, rfl, -1, rfl, rfl, rfl⟩) fun vs s4 ⟨o, H4, I4, ps, eo, e4⟩ => ?_
  subst eo e4
  have I5 : Inv X pins σ H4 { s4 with heap := s4.heap.push { cls := .type "slice", data := .fields #[vl, vu, vs] } } := I4.kept (t' := s4.toks) fun b ob q => Heap.get?_push_of_some _ q
  show wpAny (model X.prog X.w) X.A (subscriptTail e (.Slice none none (some (.UnaryOp .USub (.Constant (.int 1) k p1) p2)) p3) (.ref a) (.ref s4.heap.objs.size)) (EP X pins σ Q) X.xe { s4 with heap := s4.heap.push { cls := .type "slice", data := .fields #[vl, vu, vs] } }
  rcases q with ⟨hx, q⟩ | ⟨hx, q⟩
  · obtain ⟨its, r, ht, hz⟩ := I5.list hx
    have hlen := r.length
    refine tail_any (ops := [.ref a, .ref s4.heap.objs.size]) ht.isList.typeIs (PySem.slot_list_getitem.lookup) ?_ (by with_unfolding_all rfl)
    refine wpAny_getItem_list_slice ht.isList (Heap.IsSliceOf.new _ vl vu vs) pl pu ps (by decide) ?_ (by rw [List.size_toArray]; omega)
    rw [PySem.W.krv_pick]
    refine ⟨.ref _, _, I5.laid (t' := s4.toks) (o := .lst xs.reverse) (fun b ob q => Heap.get?_push_of_some _ q) (Nat.le_refl _) ?_, rfl, q _ (I5.hok.fresh (Nat.le_refl _))⟩
    exact ⟨by rw [List.length_reverse]; exact hz, _, 0, r.reverse, Heap.get?_push_size _ rfl⟩
  · obtain ⟨its, r, ht, hz⟩ := I5.tuple hx
    have hlen := r.length
    refine tail_any (ops := [.ref a, .ref s4.heap.objs.size]) ht.typeIs (PyProof.Rows.slot_tuple_getitem.lookup) ?_ (by with_unfolding_all rfl)
    refine getItem_tuple_rev ht (Heap.IsSliceOf.new _ vl vu vs) pl pu ps ?_ (by rw [List.size_toArray]; omega)
    refine ⟨.ref _, _, I5.laid (t' := s4.toks) (o := .tup xs.reverse) (fun b ob q => Heap.get?_push_of_some _ q) (Nat.le_refl _) ?_, rfl, q _ (I5.hok.fresh (Nat.le_refl _))⟩
    exact ⟨by rw [List.length_reverse]; exact hz, _, r.reverse, IsTup.new _ _⟩
def fRevA : MV → Hm → R MV
  | .tup l, M => .ok (.tup l.reverse) M
  | .ref k, M => match M[k]? with
    | some (.lst l) => .ok (.ref M.length) (M ++ [.lst l.reverse])
    | _ => .bad
  | _, _ => .bad
section
variable {X : Cx} {C : Cfg} {W : WX}
theorem m_revA {e : Expr} {e' : Fe} {k : Nat} {p1 p2 p3 pos : Pos} (hC : C.K = X.K) (he : PE X e (tE C W e')) : PE X (.Subscript e (.Slice none none (some (.UnaryOp .USub (.Constant (.int 1) k p1) p2)) p3) pos) (tE C W (eUn fRevA e')) := by
  refine PE.imp (pe_revA he) fun σ H Q h => ?_
  obtain ⟨ρ, M, env, rh, re, p⟩ := h
  refine ⟨ρ, M, env, rh, re, p.bind.imp (fun d M1 ρ1 H1 e1 rh1 p2 v rv => ?_) (fun _ _ _ _ _ _ q => q)⟩
  cases d with
  | tup l =>
    rw [rv_tup] at rv
    obtain ⟨a, xs, rfl, h1, h2⟩ := rv
    exact ⟨a, xs, rfl, .inr ⟨by rw [← hC]; exact h1, fun q hq => Post.newT p2 rh1 h2.rev hq⟩⟩
  | ref k =>
    rw [rv_ref] at rv
    obtain ⟨a, ha, rfl⟩ := rv
    have p2 : Post C ρ1 H1 (match M1[k]? with
      | some (.lst l) => .ok (.ref M1.length) (M1 ++ [.lst l.reverse])
      | _ => .bad) (Fv C Q) (fun x _ ρ' H' => ∀ cls dd, RX C H' ρ' x cls dd → W cls dd σ H') := p2
    cases hm : M1[k]? with
    | none => rw [hm] at p2; exact p2.elim
    | some o =>
      rw [hm] at p2
      cases o with
      | lst l =>
        obtain ⟨xs, q1, q2⟩ := rh1.at hm ha
        exact ⟨a, xs, rfl, .inl ⟨SqL.of q1, fun q hq => Post.newL p2 rh1 q2.rev hq⟩⟩
      | _ => exact p2.elim
  | _ => exact p2.elim
end
/-! ### list(x), x a text too -/
def fListA : List MV → Hm → R MV
  | [.str s], M => if s.length ≤ SL then .ok (.ref M.length) (M ++ [.lst (s.map fun c => .str [c])]) else .bad
  | xs, M => fList xs M
def rListS : List V → Hp → VK → Prop := fun xs H Q => ∃ s : Tx, xs = [.str (T s)] ∧ s.length ≤ sizeLine ∧ ∀ l, H l = none → Q (.ref l) (upd H l (.lst (s.map fun c => V.str (T [c]))))
theorem vals_signs {s : Tx} : ∀ {its : List Value} {k : Nat}, its.length + k = s.length → (∀ j v, its[j]? = some v → SignAt (T s) (k + j) v) → Vals ((s.drop k).map fun c => V.str (T [c])) its := by
  intro its
  induction its with
  | nil =>
    intro k hl _
    rw [List.drop_eq_nil_of_le (by simp at hl; omega)]
    exact .nil
  | cons v its ih =>
    intro k hl h
    rw [List.length_cons] at hl
    have hk : k < s.length := by omega
    rw [← List.getElem_cons_drop hk, List.map_cons]
    refine .cons ?_ (ih (by omega) fun j w hj => ?_)
    · obtain ⟨c, u, hc, rfl⟩ := h 0 v rfl
      have hc : s[k]? = some c := by
        have : (T s).cps[k]? = s[k]? := by
          show s.toArray[k]? = s[k]?
          simp
        rw [← this]; exact hc
      rw [List.getElem?_eq_getElem hk] at hc
      cases hc
      exact ⟨u, rfl⟩
    · have := h (j + 1) w hj
      rw [show k + 1 + j = k + (j + 1) by omega]
      exact this
theorem call_listS {X : Cx} (hc : X.calm = true) : CallR X (.type "list") rListS := by
  intro pins s σ H xs us Q I r h
  obtain ⟨t, rfl, hl, q⟩ := h
  obtain ⟨u, rfl, rx⟩ := vals1 r
  obtain ⟨tk, rfl⟩ := rx
  have hsz : (T t).cps.size = t.length := T_len t
  refine call_list_str (I.ok.hd hc) (T t) tk (fun h' tk' acc' c' kp e ho => ?_) (by rw [hsz]; exact hl)
  have hv : Vals (t.map fun c => V.str (T [c])) acc'.toList := by
    have := vals_signs (s := t) (its := acc'.toList) (k := 0) (by rw [Array.length_toList, ho.1, hsz]; omega) fun j v hj => by
      rw [Nat.zero_add]
      exact ho.2 j v (by simpa using hj)
    simpa using this
  exact ⟨.ref s.heap.objs.size, _, I.laid (t' := tk') kp (Nat.le_refl _) (show ObjOk X.prog X.w _ h' _ (.lst _) from ⟨by rw [List.length_map]; exact hl, acc'.toList, c', hv, by simpa using e⟩), rfl, q _ (I.hok.fresh (Nat.le_refl _))⟩
theorem rvs_signs {K : PySem.W.Frag} {H : Hp} {ρ : List Addr} : ∀ s : Tx, RVs K H ρ (s.map fun c => .str [c]) (s.map fun c => V.str (T [c]))
  | [] => RVs.nil
  | c :: s => RVs.cons (rv_str.mpr rfl) (rvs_signs s)
abbrev rListM (K : PySem.W.Frag) : List V → Hp → VK → Prop := fun xs H Q => rListS xs H Q ∨ ∃ p ys, xs = [.ref p] ∧ (SqL K H p ys ∨ SqT K H p ys) ∧ ∀ l, H l = none → Q (.ref l) (upd H l (.lst ys))
theorem call_listM {X : Cx} (hc : X.calm = true) : CallR X (.type "list") (rListM X.K) := (call_listS hc).or call_list_of
theorem sim_listA {C : Cfg} : SimC C fListA (rListM C.K) := by
  intro ρ H M ds xs Q G rh rx p
  unfold fListA at p
  split at p
  · rename_i s
    obtain ⟨v, rfl, r⟩ := one_rv rx
    rw [rv_str] at r
    subst r
    split at p
    · rename_i hl
      exact .inl ⟨s, rfl, by rw [sizeLine_eq]; exact hl, fun l hq => p.newL rh (rvs_signs s) hq⟩
    · exact p.elim
  · exact .inr (sim_list ρ H M _ xs Q G rh rx p)
end Mi
set_option maxRecDepth 100000
/-! Constants of the text. -/
namespace Mi
open PySem PySem.Spec PyProof.Rows L2
section
variable (K : PySem.W.Frag)
mutual
def CV : MV → Value → Prop
  | .non, u => u = .none
  | .bl b, u => u = .bool b
  | .int i, u => ∃ t, u = .int i t
  | .str s, u => ∃ t, u = .str (T s) t
  | .tup l, u => ∃ a, u = .ref a ∧ ∃ o, K.lookup a = some o ∧ o.cls = .type "tuple" ∧ ∃ its n, o.data = .seq its n ∧ its.size ≤ sizeLine ∧ CVs l its.toList
  | _, _ => False
def CVs : List MV → List Value → Prop
  | [], us => us = []
  | d :: ds, us => ∃ u r, us = u :: r ∧ CV d u ∧ CVs ds r
end
end
mutual
theorem CV.rv {K : PySem.W.Frag} : ∀ {d : MV} {u : Value}, CV K d u → ∃ v, RelV v u ∧ ∀ H ρ, RV K H ρ d v
  | .non, u, h => by unfold CV at h; exact ⟨.non, h, fun _ _ => rv_non.mpr rfl⟩
  | .bl b, u, h => by unfold CV at h; exact ⟨.bl b, h, fun _ _ => rv_bl.mpr rfl⟩
  | .int i, u, h => by unfold CV at h; exact ⟨.int i, h, fun _ _ => rv_int.mpr rfl⟩
  | .str s, u, h => by unfold CV at h; exact ⟨.str (T s), h, fun _ _ => rv_str.mpr rfl⟩
  | .tup l, u, h => by
    unfold CV at h
    obtain ⟨a, rfl, o, h1, h2, its, n, h3, h4, h5⟩ := h
    obtain ⟨xs, q1, q2⟩ := CVs.rv h5
    exact ⟨.ref a, rfl, fun H ρ => rv_tup.mpr ⟨a, xs, rfl, .inr ⟨o, its, n, h1, h2, h3, h4, q1⟩, q2 H ρ⟩⟩
  | .ref _, u, h => by unfold CV at h; exact h.elim
  | .rol _, u, h => by unfold CV at h; exact h.elim
theorem CVs.rv {K : PySem.W.Frag} : ∀ {l : List MV} {us : List Value}, CVs K l us → ∃ xs, Vals xs us ∧ ∀ H ρ, RVs K H ρ l xs
  | [], us, h => by unfold CVs at h; subst h; exact ⟨[], .nil, fun _ _ => RVs.nil⟩
  | d :: ds, us, h => by
    unfold CVs at h
    obtain ⟨u, r, rfl, h1, h2⟩ := h
    obtain ⟨v, q1, q2⟩ := CV.rv h1
    obtain ⟨xs, q3, q4⟩ := CVs.rv h2
    exact ⟨v :: xs, .cons q1 q3, fun H ρ => RVs.cons (q2 H ρ) (q4 H ρ)⟩
end
theorem const_of {K : PySem.W.Frag} {h : Heap} {mg : Str → Option Value} {x : Str} {u : Value} {d : MV} (X : K.In h) (G : h.Ns mainGlobals mg) (a : PySem.W.nsIn K mainGlobals x = some (some u)) (c : CV K d u) : ConstAt K mg x d := by
  obtain ⟨v, r, q⟩ := c.rv
  exact ⟨v, u, PySem.W.mg_of X G a, r, q⟩
theorem cv_nil {K : PySem.W.Frag} : CVs K [] [] := by unfold CVs; rfl
theorem cv_cons {K : PySem.W.Frag} {d : MV} {ds : List MV} {u : Value} {us : List Value} (h : CV K d u) (t : CVs K ds us) : CVs K (d :: ds) (u :: us) := by unfold CVs; exact ⟨u, us, rfl, h, t⟩
theorem cv_int {K : PySem.W.Frag} {i : Int} {t : Tok} : CV K (.int i) (.int i t) := by unfold CV; exact ⟨t, rfl⟩
theorem cv_str {K : PySem.W.Frag} {s : Tx} {z : Str} {t : Tok} (h : z = T s) : CV K (.str s) (.str z t) := by unfold CV; exact ⟨t, by rw [h]⟩
theorem cv_bl {K : PySem.W.Frag} {b : Bool} : CV K (.bl b) (.bool b) := by unfold CV; rfl
theorem cv_non {K : PySem.W.Frag} : CV K .non .none := by unfold CV; rfl
theorem cv_tup {K : PySem.W.Frag} {l : List MV} {a : Addr} {od : Option Addr} {its : Array Value} {n : Nat} {sl : Array (Option Value)} (h : K.lookup a = some ⟨.type "tuple", od, .seq its n, sl⟩) (hs : its.size ≤ sizeLine) (c : CVs K l its.toList) : CV K (.tup l) (.ref a) := by
  unfold CV
  exact ⟨a, rfl, _, h, rfl, its, n, rfl, hs, c⟩
/-! ### written dicts -/
def WDs (K : PySem.W.Frag) (p : Addr) : List (Tx × MV) → Prop
  | [] => True
  | q :: l => (∃ u, PySem.W.nsIn K p (T q.1) = some (some u) ∧ CV K q.2 u) ∧ WDs K p l
theorem wd_cons {K : PySem.W.Frag} {p : Addr} {s : Tx} {d : MV} {u : Value} {l : List (Tx × MV)} (h : PySem.W.nsIn K p (T s) = some (some u)) (c : CV K d u) (t : WDs K p l) : WDs K p ((s, d) :: l) := ⟨⟨u, h, c⟩, t⟩
theorem wd_nil {K : PySem.W.Frag} {p : Addr} : WDs K p [] := trivial
theorem wds_at {K : PySem.W.Frag} {p : Addr} : ∀ {l : List (Tx × MV)}, WDs K p l → ∀ s d, l.lookup s = some d → ∃ u, PySem.W.nsIn K p (T s) = some (some u) ∧ CV K d u
  | [], _, s, d, h => by cases h
  | (t, e) :: l, h, s, d, q => by
    rw [List.lookup_cons] at q
    by_cases hs : s = t
    · subst hs
      rw [beq_self_eq_true] at q
      cases q
      exact h.1
    · rw [beq_eq_false_iff_ne.mpr hs] at q
      exact wds_at h.2 s d q
theorem wd_of {K : PySem.W.Frag} {w : World} {h : Heap} {mg : Str → Option Value} {x : Str} {p : Addr} {l : List (Tx × MV)} {es : Array DictEntry} {n : Nat} (X : K.In h) (G : h.Ns mainGlobals mg) (a : PySem.W.nsIn K mainGlobals x = some (some (.ref p)))
    (hl : K.lookup p = some ⟨.type "dict", none, .dict es n, #[]⟩) (hk : PySem.W.KeysLit w.params es.toList) (al : WDs K p l) : WD K w mg x l := by
  refine ⟨p, PySem.W.mg_of X G a, fun s d hs => ?_⟩
  obtain ⟨u, h1, h2⟩ := wds_at al s d hs
  obtain ⟨v, r, q⟩ := h2.rv
  exact ⟨v, ⟨es, n, u, hl, hk, h1, r⟩, q⟩
end Mi
set_option maxRecDepth 100000
/-! A list comprehension whose element may raise. -/
namespace Mi
open PySem PySem.Spec PyProof.Rows L2
/-- as m_call; what it may let out is told by PassesAt -/
theorem m_callP {X : Cx} {C : Cfg} {W : WX} {G : Ga} {f : Nat} {fa : Addr} {x : Str} {p pos : Pos} {e : Expr} {es : List Expr} {t' : Fa} (c : Call1 C X.prog X.w X.K X.mg X.base X.A G f fa) (hm : X.mg x = some (.ref fa)) (hx : ∀ σ, PassesAt (L2.CX X.prog X.w) X σ (WE W σ)) (ha : PA X (e :: es) (tA C W t')) (hg : Gl X x := by rfl)
    (hdb : (x == ("__debug__" : Str)) = false := by decide) (he : starEach (e :: es) X.env = (false, eval e X.env) :: starEach es X.env := by rfl) (hpl : (backTo pos (starEach es X.env)).any (·.1) = false := by rfl) :
    PE X (.Call (.Name x p) (e :: es) [] pos) (tE C W (eCall G f t')) := by
  obtain ⟨np, hl, k, fd, ps, F, hr, hb⟩ := c.np
  exact PE.imp (pe_callS F (hr.mono (Nat.le_succ k)) hg hm c.kp hb hx ha hdb he hpl) fun σ H Q h => call_sp hl h
theorem noteFrame_fr {x : Value} {ce env : PySem.Env} (h : ce.frame = env.frame) : noteFrame x ce = noteFrame x env := by
  unfold noteFrame PySem.frameOf
  rw [h]
/-- the own frame notes it -/
theorem sky_note {M : Model} {A : Around} {E : Value → Shared → Prop} {env : PySem.Env} {outer : List PySem.Env} {L a : Addr} {B : Heap} {s : Shared} {Z : Obj → Prop} {Q : Unit → Shared → Prop} (hZ : HandSPX.Steady Z) (hfr : A.frames = some (env :: outer)) (hf : env.frame = some L)
    (x : Sky B (env :: outer) a Z L s.heap) (hQ : ∀ h', HandSPX.HeldZ B (env :: outer) a Z L h' → s.heap.UpToSlots h' → Q () { s with heap := h' }) : wpAny M A (noteFrame (.ref a) env) Q E s := by
  rcases x with ⟨hB, hn, hl, oe, vs, he, hz, hd, h1⟩ | fl | hh
  · exact HandSPX.look_newZ hZ hfr hl hf he hB hn hd h1 hz hQ
  · exact HandSPX.looks_onZ hZ hfr hf fl hQ
  · exact HandSPX.againZ hf hh.2.2.2 (hQ s.heap hh (Heap.UpToSlots.refl _))
/-- what the block of a comprehension leaves -/
def cpX (M : Model) (A : Around) (E : Value → Shared → Prop) (use : Option (Value → Sem Unit)) (Q : Value → Shared → Prop) (acc : Value) (ce : PySem.Env) (r : Result) (s' : Shared) : Prop :=
  match r with
  | .ok f => compPost M A E use Q acc ce.locals (.ok f) s'
  | .error x => ∃ m, s'.heap.Ns ce.locals m ∧ ∀ h', Heap.SameBut ce.locals s'.heap h' → wpAny M A (passOn "comprehension.variables-let-go" x ce : Sem Value) (fun _ _ => False) E { s' with heap := h' }
theorem comp_freeX {M : Model} {A : Around} {E : Value → Shared → Prop} {s : Shared} {env : PySem.Env} {e : Expr} {scope : Scope} {pos : Pos} {newAcc first : Sem Value} {g : Comprehension} {gs : List Comprehension} {cl : List (Str × Addr)} {use : Option (Value → Sem Unit)} {Q : Value → Shared → Prop}
    (c1 : clausesOf e = g :: gs) (c2 : ∀ x, foldedSetIterable g.iter env x = pure x) (c3 : closureFor scope env = pure cl) (c4 : scope.kind = .function) (c5 : ∀ x ∈ scope.names, x.2 = .local → scope.names.lookup x.1 = some .local)
    (hh : wpAny M A first (fun x s1 => wpAny M A (pyIter x) (fun it s2 => wpAny M A newAcc (fun acc s3 =>
      wpAny M A (newFunctionEnv scope env.globals cl [] env.qual none .none (some env)) (fun ce s4 =>
        codeAny M A (.compStart e 0 it acc { ce with scope := relabel scope env }) (cpX M A E use Q acc { ce with scope := relabel scope env }) s4) E s3) E s2) E s1) E s) :
    wpAny M A (comprehension e scope env pos newAcc false first use) Q E s := by
  unfold comprehension
  rw [c3, c1]
  have idE : ∀ (x : Value) (s' : Shared), E x s' → E x s' := fun _ _ z => z
  refine wpAny_bind (wpAny_mono hh (fun x s1 z1 => ?_) idE)
  refine wpAny_bind (wpAny_standAt (wpAny_bind (wpAny_of_eq (c2 x) (wpAny_bind (wpAny_holding (wpAny_mono z1 (fun it s2 z2 => ?_) idE))))))
  refine wpAny_standIf (wpAny_bind (wpAny_mono z2 (fun acc s3 z3 => ?_) idE))
  refine wpAny_bind (wpAny_pure (wpAny_bind (wpAny_mono z3 (fun ce s4 z4 => ?_) idE)))
  dsimp only
  have v1 : ∀ x ∈ (scope.names.filter fun x => (x.2 == .local || x.2 == .cell) && x.1 != (".0" : Str)).reverse, x.2 = .local → Env.kindOf { ce with scope := relabel scope env } x.1 = some .local :=
    fun x hx hl => lookup_relabel_local (c5 x (List.mem_filter.mp (List.mem_reverse.mp hx)).1 hl)
  have v2 : ∀ x ∈ (scope.names.filter fun x => (x.2 == .local || x.2 == .cell) && x.1 != (".0" : Str)).reverse.drop 1 ++ (scope.names.filter fun x => (x.2 == .local || x.2 == .cell) && x.1 != (".0" : Str)).reverse.take 1,
      x.2 = .local → Env.kindOf { ce with scope := relabel scope env } x.1 = some .local := fun x hx hl => by
    rcases List.mem_append.mp hx with z | z
    · exact v1 x (List.mem_of_mem_drop z) hl
    · exact v1 x (List.mem_of_mem_take z) hl
  refine wpAny_holding (wpAny_bind (wpAny_attempt (wpAny_holding (wpAny_run (codeAny_mono z4 fun r s' hr => ?_)))))
  cases r with
  | ok f =>
    have hr : compPost M A E use Q acc ce.locals (.ok f) s' := hr
    cases use with
    | none =>
      obtain ⟨m, hn, hr⟩ := hr
      exact wpAny_bind (wpAny_holding (wpAny_comp_letGo (cenv := { ce with scope := relabel scope env }) c4 _ s' m v1 hn fun h' m' _ y => wpAny_pure (hr h' y)))
    | some u =>
      refine wpAny_bind (wpAny_rule (wpAny_bind (wpAny_holding (wpAny_mono hr (fun _ s5 z5 => ?_) idE))))
      obtain ⟨m, hn, z6⟩ := z5
      exact wpAny_bind (wpAny_comp_letGo (cenv := { ce with scope := relabel scope env }) c4 _ s5 m v2 hn fun h' m' _ y => wpAny_pure (z6 h' y))
  | error x =>
    obtain ⟨m, hn, hr⟩ := (show ∃ m, s'.heap.Ns ce.locals m ∧ ∀ h', Heap.SameBut ce.locals s'.heap h' → wpAny M A (passOn "comprehension.variables-let-go" x { ce with scope := relabel scope env } : Sem Value) (fun _ _ => False) E { s' with heap := h' } from hr)
    exact wpAny_bind (wpAny_holding (wpAny_comp_letGo (cenv := { ce with scope := relabel scope env }) c4 _ s' m v1 hn fun h' m' _ y => wpAny_mono (hr h' y) (fun _ _ f => f.elim) idE))
theorem frames_but {base h h' : Heap} : ∀ {l : List PySem.Env}, h.FunFrames base l → (∀ L ∈ frs l, h'.get? L = h.get? L) → h'.FunFrames base l
  | [], _, _ => trivial
  | env :: l, x, k => by
    obtain ⟨x1, ⟨L, o, x2, x3, x4, x5⟩, x6⟩ := x
    refine ⟨x1, ⟨L, o, x2, x3, by rw [k L (List.mem_filterMap.mpr ⟨env, List.mem_cons_self, x2⟩)]; exact x4, x5⟩, frames_but x6 fun b hb => ?_⟩
    obtain ⟨e, he, q⟩ := List.mem_filterMap.mp hb
    exact k b (List.mem_filterMap.mpr ⟨e, List.mem_cons_of_mem _ he, q⟩)
section
variable {X : Cx} {pins : List (Addr × Obj)} {σ : L2.St} {H : Hp} {s s' : Shared} {W : WX}
/-- a call's exception leaves the block whose names stand at D -/
theorem exc_out {D : Addr} {ce : PySem.Env} {u : Value} {use : Option (Value → Sem Unit)} {Q : Value → Shared → Prop} {acc : Value} (J : Inv X pins σ H s) (tk : Takes X W) (hs : X.stack = X.env :: X.outer) (hf : X.env.frame = some X.env.locals)
    (hce : ce.frame = X.env.frame) (hD : ce.locals = D) (hn : ∃ m, s.heap.Ns D m) (fD : FpOk X pins H D) (nD : D ∉ X.fs) (c : L2.CX X.prog X.w X.stack H s (fun cls d H => W cls d σ H) u s') :
    notedBy (model X.prog X.w) X.A ce (fun e s2 => cpX (model X.prog X.w) X.A X.xe use Q acc ce (.error e) s2) u s' := by
  obtain ⟨a, B, H', cls, d, rfl, fl, hok, ub, na, os, ag, hE⟩ := c
  obtain ⟨f0, f1, f2, f3, f4, f5⟩ := fD
  have hfr : X.A.frames = some (X.env :: X.outer) := by rw [J.ok.frames, hs]
  have nS : D ∉ frs X.stack := fun z => by
    rcases List.mem_cons.mp (J.stkSub D z) with y | y
    · exact f1 y
    · exact nD y
  obtain ⟨m, o0, es, ep, ho0, hdat, hrest⟩ := hn
  have hB : B.get? D = some o0 := ub.keep D o0 ho0 f0 nS
  have hnf : ∀ vs, o0.data ≠ .fields vs := fun vs z => by rw [hdat] at z; cases z
  unfold notedBy
  rw [noteFrame_fr hce]
  rw [hs] at fl
  refine sky_note Zc.steady hfr hf (.inr (.inl fl)) fun h1 held up1 => ?_
  obtain ⟨st1, en1, fr1, oe, vs, T, oT, ts, he, hz, hd, hv1, hT0, hTe, hT, hdT, h3⟩ := held
  have hD1 : h1.get? D = some o0 := st1 D o0 hB
  have ha : a ≠ D := fun z => by rw [z, hD1] at he; cases he; exact hnf _ hd
  have hTD : T ≠ D := fun z => by rw [z, hD1] at hT; cases hT; exact hnf _ hdT
  refine ⟨m, ⟨o0, es, ep, by rw [hD]; exact hD1, hdat, hrest⟩, fun h2 sb => ?_⟩
  rw [hD] at sb
  have k2 : ∀ b, b ≠ D → h2.get? b = h1.get? b := fun b hb => sb.2 b hb
  obtain ⟨B2, b1, b2⟩ := restrict B fun b => decide (b ≠ D)
  have bB : ∀ b o, B2.get? b = some o → B.get? b = some o ∧ b ≠ D := fun b o q => by
    by_cases z : b = D
    · rw [b2 b (by simp [z])] at q; cases q
    · rw [b1 b (by simp [z])] at q; exact ⟨q, z⟩
  have Bb : ∀ b o, b ≠ D → B.get? b = some o → B2.get? b = some o := fun b o z q => by rw [b1 b (by simp [z])]; exact q
  have st2 : B2.StaysIn h2 := fun b o q => by
    obtain ⟨q1, q2⟩ := bB b o q
    rw [k2 b q2]
    exact st1 b o q1
  have nB : ∀ b, b ∈ frs X.stack → B2.get? b = none := fun b hb => by
    have z : B.get? b = none := (fr1.mem (by rw [hs] at hb; exact hb)).1
    cases q : B2.get? b with
    | none => rfl
    | some o => rw [(bB b o q).1] at z; cases z
  have fr2 : h2.FunFrames B2 (X.env :: X.outer) := frames_but (funFrames_none fr1 fun b hb => nB b (by rw [hs]; exact hb)) fun b hb => k2 b fun z => nS (by rw [← z, hs]; exact hb)
  have held2 : HandSPX.HeldZ B2 (X.env :: X.outer) a (Zc cls d) X.env.locals h2 := by
    refine ⟨st2, ?_, fr2, oe, vs, T, oT, ts, by rw [k2 a ha]; exact he, hz, hd, hv1, ?_, hTe, by rw [k2 T hTD]; exact hT, hdT, h3⟩
    · cases q : B2.get? a with
      | none => rfl
      | some o => rw [(bB a o q).1] at en1; cases en1
    · cases q : B2.get? T with
      | none => rfl
      | some o => rw [(bB T o q).1] at hT0; cases hT0
  unfold PySem.passOn
  refine wpAny_bind (wpAny_field (by rw [k2 a ha]; exact he) hd hv1 ?_)
  rw [if_neg (by simp)]
  refine wpAny_bind ?_
  rw [hce, hf]
  refine HandSPX.setFlight_onZ held2 fun h3 held3 up3 => ?_
  refine wpAny_throw (tk _ _ ?_)
  obtain ⟨G, g1, g2⟩ := restrict h3 fun b => (B2.get? b).isSome || decide (b ∈ frs X.stack)
  have gB : ∀ b o, B2.get? b = some o → G.get? b = some o := fun b o q => by
    rw [g1 b (by simp [q])]
    exact held3.1 b o q
  have gF : ∀ b, b ∈ frs X.stack → G.get? b = h3.get? b := fun b hb => g1 b (by simp [hb])
  have og : ∀ b o, G.get? b = some o → h3.get? b = some o ∧ ((B2.get? b).isSome = true ∨ b ∈ frs X.stack) := fun b o q => by
    cases z : ((B2.get? b).isSome || decide (b ∈ frs X.stack)) with
    | false => rw [g2 b z] at q; cases q
    | true =>
      rw [g1 b z] at q
      exact ⟨q, by simpa [Bool.or_eq_true] using z⟩
  have nD' : H' D = none := ub.free D o0 ho0 f0
  have hok2 : HOk X.prog X.w H' G := fun b o q => by
    have nb : b ≠ D := fun z => by rw [z, nD'] at q; cases q
    refine (hok b o q).stay (fun e v he q2 => gB e v (Bb e v (fun z => ?_) q2)) (fun _ r => r) fun _ _ r => r
    rcases he with he | he
    · exact nb (by rw [← he]; exact z)
    · rw [z, nD'] at he; cases he
  have slots : ∀ b o, s.heap.get? b = some o → b ∈ frs X.stack → ∃ sl, h3.get? b = some { o with slots := sl } := fun b o q hb => by
    obtain ⟨sl, q1⟩ := ub.slot b o q hb
    obtain ⟨_, o', q0, nf⟩ := J.stack.mem hb
    rw [q] at q0; cases q0
    obtain ⟨sl2, q2⟩ := up1 b _ q1 nf
    have q2 : h1.get? b = some { o with slots := sl2 } := q2
    rw [← k2 b (fun z => nS (by rw [← z]; exact hb))] at q2
    obtain ⟨sl3, q3⟩ := up3 b _ q2 nf
    exact ⟨sl3, q3⟩
  refine ⟨a, B2, { s with heap := G, gens := s'.gens, drawn := s'.drawn, toks := s'.toks }, pins, σ, H', cls, d, rfl, ?_, fun b o q hb => ?_, Heap.UpToSlots.of_keeps fun b o q => (og b o q).1, .inr (.inr (by rw [hs]; exact held3)), na, os, ag, hE⟩
  · refine J.call (ch := [D]) ⟨fun b o q n hb nc => gB b o (Bb b o (fun z => nc (by simp [z])) (ub.keep b o q n hb)), fun b o q n hb _ => ?_, fun b o q n _ => ub.free b o q n, fun b o q nc => ?_, ub.tups, ub.frzs, ub.tbls⟩ hok2 ag fun b hb => ?_
    · obtain ⟨sl, q1⟩ := slots b o q hb
      exact ⟨sl, by rw [gF b hb]; exact q1⟩
    · by_cases hb : b ∈ frs X.stack
      · obtain ⟨sl, q1⟩ := slots b o q hb
        exact ⟨_, by rw [gF b hb]; exact q1⟩
      · obtain ⟨o', q1⟩ := ub.there b o q hb
        exact ⟨o', gB b o' (Bb b o' (fun z => nc (by simp [z])) q1)⟩
    · have e : b = D := by simpa using hb
      subst e
      exact ⟨f3, f1, f4, f5⟩
  · obtain ⟨q1, q2⟩ := og b o q
    rcases q2 with q2 | q2
    · obtain ⟨o', q3⟩ := Option.isSome_iff_exists.mp q2
      have z := held3.1 b o' q3
      rw [q1] at z
      cases z
      exact q3
    · exact absurd q2 hb
end
end Mi
namespace Mi
open PySem PySem.Spec PyProof.Rows L2
section
variable {X : Cx}
/-- what an element of a block may let out -/
abbrev Pz (X : Cx) (W : WX) : Prop := ∀ σ, PassesAt (L2.CX X.prog X.w) X σ (WE W σ)
theorem lc_coreX {pins : List (Addr × Obj)} {s : Shared} {σ : L2.St} {H : Hp} {Q : VK} {elt tg iter : Expr} {ifs : List Expr} {scope : Scope} {own : List (Str × Nat)} {pos pos' : Pos} {wi : TI} {g : TG} {tt : TT} {te : WX → TE} {W : WX} {use : Option (Value → Sem Unit)} {Qf : Value → Shared → Prop}
    (hc : X.calm = true) (hN : X.N.Nodup) (hs0 : X.stack = X.env :: X.outer) (hf0 : X.env.frame = some X.env.locals) (tk : Takes X W) (I : Inv X pins σ H s) (hi : PI X tg iter wi) (ok : BlkOk X.N X.env.scope scope own)
    (hg : ∀ (s : Shared) (H : Hp) (C : Addr) (cl : List (Str × Addr)) (fp : List Addr), PG (X.blk s H scope (compEnvC scope cl C X.env) fp) tg g) (ht : ∀ (s : Shared) (H : Hp) (C : Addr) (cl : List (Str × Addr)) (fp : List Addr), PTs (X.blk s H scope (compEnvC scope cl C X.env) fp) ifs tt)
    (he : ∀ (s : Shared) (H : Hp) (C : Addr) (cl : List (Str × Addr)) (fp : List Addr) (pn : List (Addr × Obj)) (xe : Value → Shared → Prop) (W' : WX), Pz ((X.blk s H scope (compEnvC scope cl C X.env) fp).tr pn xe) W' → PE ((X.blk s H scope (compEnvC scope cl C X.env) fp).tr pn xe) elt (te W')) (hs : ∀ x, foldedSetIterable iter X.env x = pure x)
    (h : tLc wi g tt (te fun cls d _ H' => W cls d σ H') (own.map (·.2)) σ H Q)
    (hRR : ∀ D C s' m H', Inv X pins σ H' s' → Q (.ref D) H' → s'.heap.Ns C m → FpOk X pins H' C → compPost (model X.prog X.w) X.A X.xe use Qf (.ref D) C (.ok .next) s') :
    wpAny (model X.prog X.w) X.A (comprehension (.ListComp elt [⟨tg, iter, ifs, 0⟩] scope pos) scope X.env pos' (newList []) false (eval iter X.env) use) Qf X.xe s := by
  have frees : ∀ y ∈ scope.names, y.2 = .free → ∃ c, X.env.cells.lookup y.1 = some c := fun y hy e => (ok.free y hy e).elim (fun k => I.ok.has _ (.inl k)) fun k => I.ok.has _ (.inr k)
  refine comp_freeX (use := use) rfl hs (closure_ok frees) ok.kind (fun y hy e => by rw [ok.uniq y hy, e]) (thn (hi.run pins s σ H _ I h) fun xv s1 hx => thn hx fun itv s2 h2 => ?_)
  obtain ⟨it, fp, tn, J, H2, e, I2, T, st2, f2, q⟩ := h2
  subst e
  refine wpAny_newObj_type (newEnv_comp ?_) (by show 0 ≤ sizeLine; decide)
  generalize hD : s2.heap.objs.size = D
  have freeD : H2 D = none := I2.hok.fresh (Nat.le_of_eq hD)
  obtain ⟨Wt, ⟨m0, w0⟩, turn⟩ := q D freeD
  obtain ⟨s3, es3⟩ : ∃ s3 : Shared, s3 = { s2 with heap := s2.heap.push { cls := .type "list", data := .seq ([] : List Value).toArray } } := ⟨_, rfl⟩
  have h3 : s3.heap = s2.heap.push { cls := .type "list", data := .seq ([] : List Value).toArray } := by rw [es3]
  have at3 : s3.heap.get? D = some { cls := .type "list", data := .seq ([] : List Value).toArray } := by
    rw [h3, ← hD]
    exact Heap.get?_push_size _ rfl
  have I3 : Inv X pins σ (upd H2 D (.lst [])) s3 := by
    rw [es3]
    refine I2.laid (t' := s2.toks) (fun b o z => Heap.get?_push_of_some _ z) (Nat.le_of_eq hD) ⟨Nat.zero_le _, [], 0, .nil, ?_⟩
    rw [← h3]
    exact at3
  have low : ∀ b ∈ fp, b < s2.heap.objs.size := fun b hb => let ⟨_, z, _⟩ := T.obj _ _ st2 b hb; Heap.lt_size z
  have f3 : ∀ b ∈ fp, FpOk X pins (upd H2 D (.lst [])) b ∧ b < s3.heap.objs.size := fun b hb => by
    obtain ⟨z0, z⟩ := f2 b hb
    refine ⟨⟨?_, z⟩, by rw [h3, Heap.size_push]; exact Nat.lt_succ_of_lt (low b hb)⟩
    rw [upd_ne (by rw [← hD]; exact Nat.ne_of_lt (low b hb))]
    exact z0
  have st3 : tn 0 s3.heap := T.keep _ _ _ st2 fun b _ o z => by rw [h3]; exact Heap.get?_push_of_some _ z
  have I4 := block_start I3 ok hN f3
  obtain ⟨ce, ece⟩ : ∃ ce : PySem.Env, ce = compEnvC scope (cellsFrom (s3.heap.objs.size + 1) scope.names (cloFrom X.env.cells scope.names [])) s3.heap.objs.size X.env := ⟨_, rfl⟩
  have pg := hg s3 (upd H2 D (.lst [])) s3.heap.objs.size (cellsFrom (s3.heap.objs.size + 1) scope.names (cloFrom X.env.cells scope.names [])) fp
  have pt := ht s3 (upd H2 D (.lst [])) s3.heap.objs.size (cellsFrom (s3.heap.objs.size + 1) scope.names (cloFrom X.env.cells scope.names [])) fp
  have pe := he s3 (upd H2 D (.lst [])) s3.heap.objs.size (cellsFrom (s3.heap.objs.size + 1) scope.names (cloFrom X.env.cells scope.names [])) fp
  have goal1 : codeAny (model X.prog X.w) X.A (.compStart (.ListComp elt [⟨tg, iter, ifs, 0⟩] scope pos) 0 (.ref it) (.ref D) ce) (cpX (model X.prog X.w) X.A X.xe use Qf (.ref D) ce) { s3 with heap := pushCells (s3.heap.push { cls := .type "dict", data := .dict #[] }) scope.names } := by
    have cL : ce.locals = s3.heap.objs.size := by rw [ece]; rfl
    have cF : ce.frame = X.env.frame := by rw [ece]; rfl
    rw [← ece] at I4 pg pt pe
    obtain ⟨H3, eH3⟩ : ∃ H3 : Hp, H3 = upd H2 D (.lst []) := ⟨_, rfl⟩
    rw [← eH3] at I3 I4 pg pt pe w0 f3
    have free3 : ∀ b ∈ fp, H3 b = none := fun b hb => (f3 b hb).1.1
    obtain ⟨s4, es4⟩ : ∃ s4 : Shared, s4 = { s3 with heap := pushCells (s3.heap.push { cls := .type "dict", data := .dict #[] }) scope.names } := ⟨_, rfl⟩
    rw [← es4] at I4 ⊢
    have st4 : tn 0 s4.heap := T.keep _ _ _ st3 fun b _ o z => by rw [es4]; exact pushCells_keeps _ _ _ _ (Heap.get?_push_of_some _ z)
    have stat : ∀ {σ' : L2.St} {H' : Hp} {s' : Shared}, Inv (X.blk s3 H3 scope ce fp) [] σ' H' s' → (∀ b ∈ fp, H' b = none) → ∀ b ∈ fp, FpOk (X.blk s3 H3 scope ce fp) [] H' b := fun {σ' H' s'} I' hn b hb =>
      ⟨hn b hb, (I'.ok.exf b hb).1, I'.ok.exfs b hb, .inl hb, fun x c z => (I'.ok.exf b hb).2 x c z, fun p hp => absurd (show p ∈ ([] : List (Addr × Obj)) ++ [] from hp) (by simp)⟩
    have back : ∀ {H' : Hp} {s' : Shared} {pl : List (Addr × Obj)} {xe : Value → Shared → Prop} {σ' : L2.St} {pn : List (Addr × Obj)}, Inv ((X.blk s3 H3 scope ce fp).tr pn xe) pl σ' H' s' → Inv X pins σ H' s' ∧ (∃ m, s'.heap.Ns s3.heap.objs.size m) ∧ FpOk X pins H' s3.heap.objs.size := fun {H' s' pl xe σ' pn} I' => by
      obtain ⟨m, hn, _⟩ := I'.loc
      have hn : s'.heap.Ns ce.locals m := hn
      have z : H' ce.locals = none := I'.free
      rw [cL] at z hn
      exact ⟨I3.call' (ch := fp) I'.os I'.base I'.hok I'.bare fun b hb => ⟨(f3 b hb).1.2.2.2.1, (f3 b hb).1.2.1, (f3 b hb).1.2.2.2.2.1, (f3 b hb).1.2.2.2.2.2⟩, ⟨m, hn⟩, I3.fpOk (Nat.le_refl _) z⟩
    have loop : codeAny (model X.prog X.w) X.A (.compLoop (.ListComp elt [⟨tg, iter, ifs, 0⟩] scope pos) 0 (.ref it) (.ref D) ce) (cpX (model X.prog X.w) X.A X.xe use Qf (.ref D) ce) s4 := by
      refine compLoop_any (fun n s' => ∃ i H', Inv (X.blk s3 H3 scope ce fp) [] (wipe σ (own.map (·.2))) H' s' ∧ tn i s'.heap ∧ (∀ b ∈ fp, H' b = none) ∧ Wt i n H') ?_ m0 ⟨0, H3, I4, st4, free3, w0⟩
      rintro n s5 ⟨i, H5, I5, st5, n5, w5⟩
      rcases turn i n H5 w5 with ⟨stop, qq⟩ | ⟨go, Nx, hNx, step⟩
      · refine thnF (T.done (X.blk s3 H3 scope ce fp) rfl rfl rfl hc i [] s5 _ H5 (fun _ _ => False) I5 (stat I5 n5) st5 stop) fun r s6 z6 => ?_
        obtain ⟨rfl, I6⟩ := z6
        obtain ⟨I7, ⟨m, hn⟩, fC⟩ := back (pn := []) (xe := fun _ _ => False) I6
        show compPost _ _ _ _ _ _ ce.locals _ _
        rw [cL]
        exact hRR D _ s6 m H5 I7 qq hn fC
      · refine thnF (T.item (X.blk s3 H3 scope ce fp) rfl rfl rfl hc i [] s5 _ H5 (fun _ _ => False) I5 (stat I5 n5) st5 go) fun r s6 z6 => ?_
        obtain ⟨u, rfl, h6⟩ := z6
        refine thnF h6 fun _ s7 ⟨x, H7, I7, r7, y7, st7, n7⟩ => ?_
        refine thnF (pg.run _ s7 _ H7 x u _ (I7.pinned (stat I7 n7) (T.obj _ _ st7)) r7 (step x H7 y7)) fun _ s8 ⟨σ8, H8, I8, hw8, q8⟩ => ?_
        refine thnF (pt.run _ s8 σ8 H8 _ I8 q8) fun b s9 ⟨H9, I9, q9⟩ => ?_
        have fin : ∀ {s' : Shared} {H' : Hp}, Inv (X.blk s3 H3 scope ce fp) ([] ++ pinsAt fp s7.heap) σ8 H' s' → Nx H' → ∃ m, m < n ∧ ∃ i H', Inv (X.blk s3 H3 scope ce fp) [] (wipe σ (own.map (·.2))) H' s' ∧ tn i s'.heap ∧ (∀ b ∈ fp, H' b = none) ∧ Wt i m H' := fun {s' H'} I' nx => by
          obtain ⟨m', hm, w'⟩ := hNx H' nx
          have held : ∀ b ∈ fp, ∀ o, s7.heap.get? b = some o → s'.heap.get? b = some o ∧ H' b = none := fun b hb o z =>
            ⟨(I'.pin (b, o) (List.mem_append_right _ (List.mem_append_right _ (mem_pinsAt hb z)))).1, (I'.pin (b, o) (List.mem_append_right _ (List.mem_append_right _ (mem_pinsAt hb z)))).2.1⟩
          refine ⟨m', hm, i + 1, H', (I'.unpinned (pins := [])).weak (by rw [← hw8, wipe_length]) (fun j v z => ?_), T.keep _ _ _ st7 fun b hb o z => (held b hb o z).1, fun b hb => ?_, w'⟩
          · rw [← hw8] at z
            exact (wipe_some z).1
          · obtain ⟨o, z, _⟩ := T.obj _ _ st7 b hb
            exact (held b hb o z).2
        cases b with
        | false =>
          simp only [Bool.false_eq_true, if_false] at q9 ⊢
          exact fin I9 q9
        | true =>
          simp only [if_true] at q9 ⊢
          have xeD : Pz ((X.blk s3 H3 scope ce fp).tr ([] ++ ([] ++ pinsAt fp s7.heap)) fun e s' => ∃ pl σ' H' s0, Inv ((X.blk s3 H3 scope ce fp).tr ([] ++ ([] ++ pinsAt fp s7.heap)) fun _ _ => False) pl σ' H' s0 ∧ L2.CX X.prog X.w X.stack H' s0 (fun cls d H => W cls d σ H) e s') (fun cls d _ H' => W cls d σ H') := fun σ' pl H' s0 e s' I' c => ⟨pl, σ', H', s0, ⟨I'.ok.ofTry.toTry _ _, I'.os, I'.bare, I'.base, I'.loc, I'.cell, I'.free, I'.freeC, I'.pin, I'.hok, I'.len⟩, c⟩
          refine wpAny_mono ((pe _ _ _ xeD).run [] s9 σ8 H9 _ (I9.toTry _) q9) (fun z s10 ⟨yv, H10, I10, r10, acc, hD10, hz10, nx⟩ => ?_) fun e s' z => ?_
          · refine thnF (app_ok (X := X.blk s3 H3 scope ce fp) (I10.ofTry I9.ok) hD10 hz10 r10 (Q := fun _ s5 => ∃ m, m < n ∧ ∃ i H', Inv (X.blk s3 H3 scope ce fp) [] (wipe σ (own.map (·.2))) H' s5 ∧ tn i s5.heap ∧ (∀ b ∈ fp, H' b = none) ∧ Wt i m H') fun s11 I11 => fin I11 nx) fun _ _ z => z
          · obtain ⟨pl, σ', H', s0, I', c⟩ := z
            obtain ⟨J1, hn, fC⟩ := back I'
            exact exc_out J1 tk hs0 hf0 cF cL hn fC (I3.nofs (Nat.le_refl _)) c
    exact codeAny_compStart_list loop (T.self X.A 0 _ _ _ st4 loop)
  rw [ece, es3] at goal1
  exact goal1
/-- the turns of a comprehension whose element may raise -/
def lcGoX (ni : Ni) (tg : Ftg) (c : Ft) (e : Fe) (env0 : Env) : Nat → Nat → List MV → Hm → R (List MV)
  | 0, _, _, _ => .bad
  | n + 1, k, acc, M => match ni M k with
    | none => .bad
    | some none => .ok acc M
    | some (some x) => (tg x env0 M).bindN fun env1 M1 => (c env1 M1).bindN fun b M2 =>
      if b then (e env1 M2).bind fun y M3 => if acc.length < SL then lcGoX ni tg c e env0 n (k + 1) (acc ++ [y]) M3 else .bad
      else lcGoX ni tg c e env0 n (k + 1) acc M2
def eLcX (it : Fi) (tg : Ftg) (c : Ft) (e : Fe) (vs : List Nat) : Fe := fun env M => (it env M).bind fun p M1 =>
  (lcGoX p.1 tg c e (wipeE env vs) p.2 0 [] M1).bind fun l M2 => .ok (.ref M2.length) (M2 ++ [.lst l])
theorem R.bind_bind {α β γ : Type} (r : R α) (f : α → Hm → R β) (h : β → Hm → R γ) : (r.bind f).bind h = r.bind fun a M => (f a M).bind h := by cases r <;> rfl
variable {C : Cfg} {W : WX}
theorem Post.erX {α : Type} {ρ : List Addr} {H : Hp} {D : Addr} {u : HO} {r : R α} {F : α → Hm → List Addr → Hp → Prop} {G : MX → Hm → List Addr → Hp → Prop} (hm : Mut (some u)) (hD : H D = some u) (nD : D ∉ ρ) (p : Post C ρ (Mi.er H D) r F G) :
    Post C ρ H r (fun a M' ρ' H' => H' D = some u ∧ D ∉ ρ' ∧ F a M' ρ' (Mi.er H' D)) G := by
  cases r with
  | ok a M' => exact (p.er hm hD nD)
  | exc x M' => exact fun ρ' H' e rh => p ρ' H' ((Ext.ofEr hD).trans e) rh
  | bad => exact p
theorem lcX_read {Q : VK} {σ : L2.St} {H : Hp} {it : Fi} {g : Ftg} {c' : Ft} {e' : Fe} {vs : List Nat} (h : tE C W (eLcX it g c' e' vs) σ H Q) : tLc (tIt C W it) (tGt C vs g) (tT C W0 c') (tE C (fun cls d _ H' => W cls d σ H') e') vs σ H Q := by
  obtain ⟨ρ, M, env, rh, re, p⟩ := h
  refine ⟨ρ, M, env, rh, re, p.bind.imp (fun pn M1 ρ1 H1 e1 rh1 p2 J ok => ?_) (fun _ _ _ _ _ _ q => q)⟩
  obtain ⟨ni, n0⟩ := pn
  intro D hD
  have re1 : RE C.K H1 ρ1 (wipeE env vs) (wipe σ vs) := (re.mono e1).wipe vs
  let K : MX → Hm → List Addr → Hp → Prop := fun x _ ρ' H' => ∀ cls dd, RX C H' ρ' x cls dd → W cls dd σ H'
  let F : MV → Hm → List Addr → Hp → Prop := fun d _ ρ' H' => ∀ v, RV C.K H' ρ' d v → Q v H'
  let fin : List MV → Hm → R MV := fun l M2 => .ok (.ref M2.length) (M2 ++ [.lst l])
  refine ⟨fun i m H => ∃ ρ M acc ys, Ext C.K ρ1 ρ H1 (er H D) ∧ RH C ρ H M ∧ D ∉ ρ ∧ H D = some (.lst ys) ∧ RVs C.K H ρ acc ys ∧ Post C ρ (er H D) ((lcGoX ni g c' e' (wipeE env vs) m i acc M).bind fin) F K,
    ⟨n0, ρ1, M1, [], [], ?_, rh1.beside hD, rh1.fresh hD, upd_same, RVs.nil, ?_⟩, fun i m H h => ?_⟩
  · rw [er_upd, er_free hD]; exact Ext.refl
  · rw [er_upd, er_free hD]; exact p2
  obtain ⟨ρ, M, acc, ys, ex, rh, nD, hD2, ra, p⟩ := h
  have rhE := rh.er nD (show Mut (some (.lst ys)) from trivial) hD2
  have exH : Ext C.K ρ1 ρ H1 H := ex.trans (Ext.ofEr hD2)
  cases m with
  | zero => exact p.elim
  | succ n =>
    unfold lcGoX at p
    cases hn : ni M i with
    | none => rw [hn] at p; exact p.elim
    | some o =>
      cases o with
      | none =>
        rw [hn] at p
        have p : Post C ρ (er H D) (.ok (.ref M.length) (M ++ [.lst acc])) F K := p
        refine .inl ⟨ok.stop ρ H M i exH.toMo rh hn, ?_⟩
        have e2 : Ext C.K ρ (ρ ++ [D]) (er H D) (upd (er H D) D (.lst ys)) := Ext.new1 (C := C) er_self
        have rh2 : RH C (ρ ++ [D]) (upd (er H D) D (.lst ys)) (M ++ [.lst acc]) := rhE.push er_self ⟨ys, upd_same, by rw [er_back hD2]; exact ra.mo ⟨List.prefix_append _ _, fun _ _ q => q, fun _ _ q => q⟩⟩
        rw [er_back hD2] at e2 rh2
        refine p _ _ e2 rh2 (.ref D) ?_
        unfold RV
        refine ⟨D, ?_, rfl⟩
        rw [← rh.len, List.getElem?_append_right (Nat.le_refl _), Nat.sub_self]
        rfl
      | some x =>
        rw [hn] at p
        have p : Post C ρ (er H D) (((g x (wipeE env vs) M).bindN fun env1 M1 => (c' env1 M1).bindN fun b M2 => if b then (e' env1 M2).bind fun y M3 => if acc.length < SL then lcGoX ni g c' e' (wipeE env vs) n (i + 1) (acc ++ [y]) M3 else .bad else lcGoX ni g c' e' (wipeE env vs) n (i + 1) acc M2).bind fin) F K := p
        rw [R.bindN_bind] at p
        have mu : ∀ {zs : List V}, Mut (some (.lst zs)) := fun {_} => trivial
        refine .inr ⟨ok.go ρ H M i x exH.toMo rh hn, fun H => ∃ ρ M acc ys, Ext C.K ρ1 ρ H1 (er H D) ∧ RH C ρ H M ∧ D ∉ ρ ∧ H D = some (.lst ys) ∧ RVs C.K H ρ acc ys ∧ Post C ρ (er H D) ((lcGoX ni g c' e' (wipeE env vs) n (i + 1) acc M).bind fin) F K, fun H' h => ⟨n, Nat.lt_succ_self n, h⟩, fun v H' hy => ?_⟩
        obtain ⟨e2, rh2, rv⟩ := ok.yld ρ H M i x v H' exH.toMo rh hn hy
        obtain ⟨e2E, hD3, _⟩ := e2.er mu hD2 nD
        have ra2 := ra.mono e2
        refine ⟨ρ, M, wipeE env vs, x, _, rh2, re1.mono (exH.trans e2), rv, (Post.er mu hD3 nD (p.ext e2E).bindN).imp (fun env1 M2 ρ2 H2 e3 rh3 ⟨hD4, nD4, p3⟩ σ2 re3 hw => ?_) (fun _ _ _ _ _ _ q => q)⟩
        refine ⟨hw.trans (wipe_wipe σ vs), ?_⟩
        have ra3 := ra2.mono e3
        have ex3 := (ex.trans e2E).trans (e3.er mu hD3 nD).1
        rw [R.bindN_bind] at p3
        refine ⟨ρ2, M2, env1, rh3, re3, (Post.er mu hD4 nD4 p3.bindN).imp (fun b M3 ρ3 H3 e4 rh4 ⟨hD5, nD5, p4⟩ b' hb => ?_) (fun _ _ _ _ _ _ q => q.elim)⟩
        subst hb
        have ra4 := ra3.mono e4
        have ex4 := ex3.trans (e4.er mu hD4 nD4).1
        cases b' with
        | false => exact ⟨ρ3, M3, acc, ys, ex4, rh4, nD5, hD5, ra4, p4⟩
        | true =>
          have p4 : Post C ρ3 (er H3 D) (((e' env1 M3).bind fun y M3 => if acc.length < SL then lcGoX ni g c' e' (wipeE env vs) n (i + 1) (acc ++ [y]) M3 else .bad).bind fin) F K := p4
          rw [R.bind_bind] at p4
          refine ⟨ρ3, M3, env1, rh4, re3.mono e4, (Post.erX mu hD5 nD5 p4.bind).imp (fun y M4 ρ4 H4 e5 rh5 ⟨hD6, nD6, p5⟩ w rw_ => ?_) (fun _ _ _ _ _ _ q => q)⟩
          have ra5 := ra4.mono e5
          have ex5 := ex4.trans (e5.er mu hD5 nD5).1
          by_cases hl : acc.length < SL
          · rw [if_pos hl] at p5
            refine ⟨ys, hD6, by rw [ra5.len, sizeLine_eq]; exact hl, ρ4, M4, acc ++ [y], ys ++ [w], ?_, ?_, nD6, upd_same, ?_, ?_⟩
            · rw [er_upd]; exact ex5
            · have q := (rh5.er nD6 mu hD6).beside (o := .lst (ys ++ [w])) (er_self (H := H4) (D := D))
              rw [upd_er] at q
              exact q
            · have m : Mo C.K ρ4 ρ4 H4 (upd H4 D (.lst (ys ++ [w]))) := by
                have q1 : Mo C.K ρ4 ρ4 H4 (er H4 D) := ⟨List.prefix_refl _, fun a xs q => SqT.er mu hD6 q, fun a xs q => FzL.er mu hD6 q⟩
                have q2 := (Ext.new (C := C) (ρ := ρ4) (o := .lst (ys ++ [w])) (er_self (H := H4) (D := D))).toMo
                rw [upd_er] at q2
                exact ⟨List.prefix_refl _, fun a xs q => q2.tup a xs (q1.tup a xs q), fun a xs q => q2.fz a xs (q1.fz a xs q)⟩
              exact (ra5.snoc rw_).mo m
            · rw [er_upd]; exact p5
          · rw [if_neg hl] at p5
            exact p5.elim
theorem m_lcX {elt tg iter : Expr} {ifs : List Expr} {scope : Scope} {own : List (Str × Nat)} {pos : Pos} {it : Fi} {g : Ftg} {c' : Ft} {e' : Fe} (hc : X.calm = true) (hN : X.N.Nodup) (tk : Takes X W) (hi : PI X tg iter (tIt C W it)) (ok : BlkOk X.N X.env.scope scope own)
    (hg : ∀ (s : Shared) (H : Hp) (C' : Addr) (cl : List (Str × Addr)) (fp : List Addr), PG (X.blk s H scope (compEnvC scope cl C' X.env) fp) tg (tGt C (own.map (·.2)) g)) (ht : ∀ (s : Shared) (H : Hp) (C' : Addr) (cl : List (Str × Addr)) (fp : List Addr), PTs (X.blk s H scope (compEnvC scope cl C' X.env) fp) ifs (tT C W0 c'))
    (he : ∀ (s : Shared) (H : Hp) (C' : Addr) (cl : List (Str × Addr)) (fp : List Addr) (pn : List (Addr × Obj)) (xe : Value → Shared → Prop) (W' : WX), Pz ((X.blk s H scope (compEnvC scope cl C' X.env) fp).tr pn xe) W' → PE ((X.blk s H scope (compEnvC scope cl C' X.env) fp).tr pn xe) elt (tE C W' e'))
    (hs : ∀ x, foldedSetIterable iter X.env x = pure x := by intro _; rfl) (hs0 : X.stack = X.env :: X.outer := by rfl) (hf0 : X.env.frame = some X.env.locals := by rfl) :
    PE X (.ListComp elt [⟨tg, iter, ifs, 0⟩] scope pos) (tE C W (eLcX it g c' e' (own.map (·.2)))) := by
  refine ⟨fun pins s σ H Q I h => ?_⟩
  rw [eval_ListComp]
  refine lc_coreX (te := fun W' => tE C W' e') (W := W) hc hN hs0 hf0 tk I hi ok hg ht he hs (lcX_read h) fun D N s' m H' I' q hn f => ⟨m, hn, fun h2 sb => ?_⟩
  obtain ⟨f0, f1, f2, f3, f4, f5⟩ := f
  exact ⟨.ref D, H', I'.turned (t' := s'.toks) (fun b o hb e => (sb.2 b hb).trans e) f0 f1 f3 f4 f5, rfl, q⟩
theorem m_setLcX {i : Nat} {y : Str} {py : Pos} {elt tg iter : Expr} {ifs : List Expr} {scope : Scope} {own : List (Str × Nat)} {pos spos : Pos} {it : Fi} {g : Ftg} {c' : Ft} {e' : Fe} (hc : X.calm = true) (hN : X.N.Nodup) (hyl : X.env.scope.names.lookup y = some .local)
    (hsw : swapsWith (.ListComp elt [⟨tg, iter, ifs, 0⟩] scope pos) (some (.Name y py)) spos.line X.env = pure true) (tk : Takes X W) (hi : PI X tg iter (tIt C W it)) (ok : BlkOk X.N X.env.scope scope own)
    (hg : ∀ (s : Shared) (H : Hp) (C' : Addr) (cl : List (Str × Addr)) (fp : List Addr), PG (X.blk s H scope (compEnvC scope cl C' X.env) fp) tg (tGt C (own.map (·.2)) g)) (ht : ∀ (s : Shared) (H : Hp) (C' : Addr) (cl : List (Str × Addr)) (fp : List Addr), PTs (X.blk s H scope (compEnvC scope cl C' X.env) fp) ifs (tT C W0 c'))
    (he : ∀ (s : Shared) (H : Hp) (C' : Addr) (cl : List (Str × Addr)) (fp : List Addr) (pn : List (Addr × Obj)) (xe : Value → Shared → Prop) (W' : WX), Pz ((X.blk s H scope (compEnvC scope cl C' X.env) fp).tr pn xe) W' → PE ((X.blk s H scope (compEnvC scope cl C' X.env) fp).tr pn xe) elt (tE C W' e'))
    (hs : ∀ x, foldedSetIterable iter X.env x = pure x := by intro _; rfl) (hy : X.N[i]? = some y := by rfl) (hs0 : X.stack = X.env :: X.outer := by rfl) (hf0 : X.env.frame = some X.env.locals := by rfl) :
    PS X (.Assign [.Name y py] (.ListComp elt [⟨tg, iter, ifs, 0⟩] scope pos) spos) (tS C W (sSet i (eLcX it g c' e' (own.map (·.2))))) := by
  refine ⟨fun pins s σ H D I h => ?_⟩
  obtain ⟨ρ, M, env, rh, re, p⟩ := h
  have p := (p.st re).imp (F' := fun d _ ρ' H' => ∀ v, RV C.K H' ρ' d v → D.nx (σ.set i (some v)) H') (fun d M1 ρ1 H1 e1 rh1 p2 v rv => p2.nx rh1 ((re.mono e1).set i rv)) (fun _ _ _ _ _ _ q => q)
  have h2 : tE C W (eLcX it g c' e' (own.map (·.2))) σ H fun v H' => D.nx (σ.set i (some v)) H' := ⟨ρ, M, env, rh, re, p⟩
  rw [exec_Assign_Name_used _ _ _ _ hsw]
  refine wpAny_bind (wpAny_standAt (wpAny_bind ?_))
  show wpAny _ X.A (do let _ ← comprehension (.ListComp elt [⟨tg, iter, ifs, 0⟩] scope pos) scope X.env (firstIterPos [⟨tg, iter, ifs, 0⟩] pos) (newList []) false (eval iter X.env) (some (assign (.Name y py) X.env))) _ _ s
  refine wpAny_bind (thn (lc_coreX (Qf := fun _ s' => SP X pins D .next s') (te := fun W' => tE C W' e') (W := W) hc hN hs0 hf0 tk I hi ok hg ht he hs (lcX_read h2) fun L N s' m H' I' q hn f => ?_) fun _ s' hq => wpAny_pure (wpAny_pure hq))
  show wpAny _ _ (assign (.Name y py) X.env (.ref L)) _ _ _
  refine wpAny_assign_Name (store_ok2 (v := V.ref L) I' hN hy (.inl hyl) rfl (fun s2 I2 z => ?_) (.inr hyl))
  obtain ⟨a, sb, ha⟩ := z
  obtain ⟨f0, f1, f2, f3, f4, f5⟩ := f
  have ne : N ≠ a := by
    rcases ha with z | z
    · rw [z]; exact f1
    · exact fun e => f4 y a z e.symm
  exact ⟨m, hn.sameBut sb ne, fun h3 sb3 => ⟨_, H', I2.turned (t' := s2.toks) (fun b o hb e => (sb3.2 b hb).trans e) f0 f1 f3 f4 f5, q⟩⟩
end
end Mi
set_option maxRecDepth 100000
/-! More of the language: written dicts asked, split, sums, sets counted, handlers. -/
namespace Mi
open PySem PySem.Spec PyProof.Rows L2
/-! ### x in D, D a written dict -/
def KeysAre : List DictEntry → List Tx → Prop
  | [], [] => True
  | e :: r, k :: ks => (∃ x t, e.key = .str x t ∧ x = T k) ∧ KeysAre r ks
  | _, _ => False
structure WDK (K : PySem.W.Frag) (w : World) (mg : Str → Option Value) (x : Str) (ks : List Tx) : Prop where
  at_ : ∃ p es n, mg x = some (.ref p) ∧ KDict K w p es n ∧ ∀ s : Tx, ∃ r, PySem.W.nsIn K p (T s) = some r ∧ r.isSome = decide (s ∈ ks)
theorem keys_find : ∀ {l : List DictEntry} {ks : List Tx}, KeysAre l ks → ∀ s : Tx, (l.find? (·.key.isStr (T s))).isSome = decide (s ∈ ks) ∧ l.any (·.refKey) = false
  | [], [], _, s => ⟨by simp, rfl⟩
  | [], _ :: _, h, _ => h.elim
  | _ :: _, [], h, _ => h.elim
  | e :: r, k :: ks, h, s => by
    obtain ⟨⟨x, t, hk, rfl⟩, h2⟩ := h
    obtain ⟨i1, i2⟩ := keys_find h2 s
    have e1 : e.key.isStr (T s) = decide (s = k) := by
      rw [hk]
      show (T k == T s) = decide (s = k)
      by_cases z : s = k
      · subst z; simp
      · rw [decide_eq_false z]
        exact beq_eq_false_iff_ne.mpr fun q => z (T_inj q).symm
    refine ⟨?_, ?_⟩
    · rw [List.find?_cons, e1]
      by_cases z : s = k
      · rw [decide_eq_true z]; simp [z]
      · rw [decide_eq_false z]
        show (r.find? _).isSome = _
        rw [i1]; simp [z]
    · rw [List.any_cons, i2, Bool.or_false]
      unfold DictEntry.refKey
      rw [hk]
theorem wdk_of {K : PySem.W.Frag} {w : World} {h : Heap} {mg : Str → Option Value} {x : Str} {p : Addr} {ks : List Tx} {es : Array DictEntry} {n : Nat} (X : K.In h) (G : h.Ns mainGlobals mg) (a : PySem.W.nsIn K mainGlobals x = some (some (.ref p)))
    (hl : K.lookup p = some ⟨.type "dict", none, .dict es n, #[]⟩) (hk : PySem.W.KeysLit w.params es.toList) (lo : (p == sysModules) = false) (al : KeysAre es.toList ks) : WDK K w mg x ks := by
  refine ⟨p, es, n, PySem.W.mg_of X G a, ⟨hl, hk, lo⟩, fun s => ?_⟩
  obtain ⟨h1, h2⟩ := keys_find al s
  unfold PySem.W.nsIn
  rw [hl]
  show ∃ r, (match es.toList.find? (·.key.isStr (T s)) with
    | some e => some (some e.val)
    | none => if es.toList.any (·.refKey) then none else some none) = some r ∧ _
  cases q : es.toList.find? (·.key.isStr (T s)) with
  | some e => exact ⟨some e.val, rfl, by rw [← h1, q]; rfl⟩
  | none => exact ⟨none, by rw [h2]; rfl, by rw [← h1, q]; rfl⟩
def eKdIn (ks : List Tx) (g : Bool → Bool) (a : Fe) : Fe := fun env M => (a env M).bind fun x M1 => match x with
  | .str s => .ok (.bl (g (decide (s ∈ ks)))) M1
  | _ => .bad
section
variable {X : Cx} {C : Cfg} {W : WX}
theorem m_kdInG {op : CmpOp} {g : Bool → Bool} {x : Str} {ks : List Tx} {b : Expr} {b' : Fe} {p pos : Pos} (ho : ∀ {d : Addr} {es : Array DictEntry} {n : Nat}, KDict X.K X.w d es n → OpR X (compareOp op) (fun x y H Q => ∃ (z : Str) (r : Option Value), x = .str z ∧ y = .ref d ∧ PySem.W.nsIn X.K d z = some r ∧ Q (.bl (g r.isSome)) H))
    (h : WDK X.K X.w X.mg x ks) (hb : PE X b (tE C W b')) (hg : Gl X x := by rfl) (hd : (x == ("__debug__" : Str)) = false := by decide) (hm : behindInMarks op (.Name x p) = false := by rfl) :
    PE X (.Compare b [op] [.Name x p] pos) (tE C W (eKdIn ks g b')) ∧ PT X (.Compare b [op] [.Name x p] pos) (tT C W (cB (eKdIn ks g b'))) := by
  obtain ⟨q, es, n, hmq, D, hq⟩ := h.at_
  refine ⟨PE.imp (pe_cmpR (ho D) hb (pe_glob (v := .ref q) hg hmq rfl hd) hm) fun σ H Q h => ?_, PT.imp (pt_cmpR (ho D) hb (pe_glob (v := .ref q) hg hmq rfl hd) hm) fun σ H Q h => ?_⟩
  · obtain ⟨ρ, M, env, rh, re, p⟩ := h
    refine ⟨ρ, M, env, rh, re, p.bind.imp (fun y M1 ρ1 H1 e1 rh1 p1 vy ry => ?_) (fun _ _ _ _ _ _ q => q)⟩
    cases y with
    | str s =>
      rw [rv_str] at ry
      subst ry
      obtain ⟨r, h1, h2⟩ := hq s
      exact ⟨T s, r, rfl, rfl, h1, by rw [h2]; exact p1.val rh1 (rv_bl.mpr rfl)⟩
    | _ => exact p1.elim
  · obtain ⟨ρ, M, env, rh, re, p⟩ := h
    have p := p.bind.bind
    refine ⟨ρ, M, env, rh, re, p.imp (fun y M1 ρ1 H1 e1 rh1 p1 vy ry => ?_) (fun _ _ _ _ _ _ q => q)⟩
    cases y with
    | str s =>
      rw [rv_str] at ry
      subst ry
      obtain ⟨r, h1, h2⟩ := hq s
      exact ⟨T s, r, rfl, rfl, h1, by rw [h2]; exact ⟨_, rfl, (p1.now rh1).now rh1 _ rfl⟩⟩
    | _ => exact p1.elim
theorem m_kdIn {x : Str} {ks : List Tx} {b : Expr} {b' : Fe} {p pos : Pos} (h : WDK X.K X.w X.mg x ks) (hb : PE X b (tE C W b')) (hg : Gl X x := by rfl) (hd : (x == ("__debug__" : Str)) = false := by decide) : PE X (.Compare b [.In] [.Name x p] pos) (tE C W (eKdIn ks id b')) := (m_kdInG op_in_kd h hb hg hd).1
theorem mt_kdIn {x : Str} {ks : List Tx} {b : Expr} {b' : Fe} {p pos : Pos} (h : WDK X.K X.w X.mg x ks) (hb : PE X b (tE C W b')) (hg : Gl X x := by rfl) (hd : (x == ("__debug__" : Str)) = false := by decide) : PT X (.Compare b [.In] [.Name x p] pos) (tT C W (cB (eKdIn ks id b'))) := (m_kdInG op_in_kd h hb hg hd).2
theorem m_kdNotIn {x : Str} {ks : List Tx} {b : Expr} {b' : Fe} {p pos : Pos} (h : WDK X.K X.w X.mg x ks) (hb : PE X b (tE C W b')) (hg : Gl X x := by rfl) (hd : (x == ("__debug__" : Str)) = false := by decide) : PE X (.Compare b [.NotIn] [.Name x p] pos) (tE C W (eKdIn ks not b')) := (m_kdInG op_notIn_kd h hb hg hd).1
theorem mt_kdNotIn {x : Str} {ks : List Tx} {b : Expr} {b' : Fe} {p pos : Pos} (h : WDK X.K X.w X.mg x ks) (hb : PE X b (tE C W b')) (hg : Gl X x := by rfl) (hd : (x == ("__debug__" : Str)) = false := by decide) : PT X (.Compare b [.NotIn] [.Name x p] pos) (tT C W (cB (eKdIn ks not b'))) := (m_kdInG op_notIn_kd h hb hg hd).2
end
/-! ### s.split(c) -/
def splT (c : Nat) : Tx → List Tx
  | [] => [[]]
  | a :: r => if a = c then [] :: splT c r else match splT c r with
    | [] => [[a]]
    | p :: ps => (a :: p) :: ps
theorem splT_ne (c : Nat) : ∀ x : Tx, splT c x ≠ []
  | [] => by simp [splT]
  | a :: r => by
    unfold splT
    split
    · simp
    · split <;> simp
theorem splT_free (c : Nat) : ∀ p : Tx, c ∉ p → splT c p = [p]
  | [], _ => rfl
  | a :: r, h => by
    have n : a ≠ c := fun z => h (by rw [z]; exact List.mem_cons_self)
    unfold splT
    rw [if_neg n, splT_free c r fun z => h (List.mem_cons_of_mem _ z)]
theorem splT_app (c : Nat) (y : Tx) : ∀ p : Tx, c ∉ p → splT c (p ++ c :: y) = p :: splT c y
  | [], _ => by
    show splT c (c :: y) = _
    rw [splT, if_pos rfl]
  | a :: r, h => by
    have n : a ≠ c := fun z => h (by rw [z]; exact List.mem_cons_self)
    show splT c (a :: (r ++ c :: y)) = _
    rw [splT, if_neg n, splT_app c y r fun z => h (List.mem_cons_of_mem _ z)]
/-- pieces without c are told by what they make -/
theorem splT_one (c : Nat) : ∀ (ps : List Tx), ps ≠ [] → (∀ p ∈ ps, c ∉ p) → splT c (joinT [c] ps) = ps
  | [], h, _ => absurd rfl h
  | [p], _, h => splT_free c p (h p List.mem_cons_self)
  | p :: q :: ps, _, h => by
    have e : joinT [c] (p :: q :: ps) = p ++ c :: joinT [c] (q :: ps) := rfl
    rw [e, splT_app c _ p (h p List.mem_cons_self), splT_one c (q :: ps) (by simp) fun x hx => h x (List.mem_cons_of_mem _ hx)]
theorem strs_T2 (l : List Str) : ∃ ps : List Tx, l = ps.map T := strs_T l
theorem split_T (c : Nat) (x : Tx) : Txt.split (T x) (T [c]) = (splT c x).map T := by
  obtain ⟨ps, e⟩ := strs_T2 (Txt.split (T x) (T [c]))
  have h1 := PySem.StrLaws.join_split (T x) (T [c])
  have h2 := PySem.StrLaws.split_free (T x) c
  have h3 := PyProof.Rows.split_pos (T x) (T [c])
  rw [e] at h1 h3 ⊢
  have h2 : ∀ p ∈ ps, c ∉ p := fun p hp => by
    have := h2 (T p) (by
      show T p ∈ Txt.split (T x) (T [c])
      rw [e]; exact List.mem_map_of_mem hp)
    rwa [T_list] at this
  rw [← TL.join_eq] at h1
  rw [join_T] at h1
  have h1 := T_inj h1
  have hne : ps ≠ [] := fun z => by rw [z] at h3; simp at h3
  rw [← h1, splT_one c ps hne h2]
def fSplit : MV → List MV → Hm → R MV
  | .str s, [.str [c]], M => if s.length + 2 ≤ SL then .ok (.ref M.length) (M ++ [.lst ((splT c s).map .str)]) else .bad
  | _, _, _ => .bad
theorem sim_split {C : Cfg} : SimM C fSplit (fun x xs H Q => ∃ a b, x = .str a ∧ xs = [.str b] ∧ (b.length == 0) = false ∧ a.length + 2 ≤ sizeLine ∧ rNewStrs (Txt.split a b) H Q) := by
  intro ρ H M d ds x xs Q G rh rx rxs p
  unfold fSplit at p
  split at p
  · rename_i s c
    obtain ⟨v, rfl, r⟩ := one_rv rxs
    rw [rv_str] at rx r
    subst rx; subst r
    split at p
    · rename_i hl
      refine ⟨T s, T [c], rfl, rfl, rfl, by rw [T_len, sizeLine_eq]; exact hl, fun q hq => ?_⟩
      rw [split_T]
      exact p.newL rh (rvs_strs _) hq
    · exact p.elim
  · exact p.elim
end Mi
namespace Mi
open PySem PySem.Spec PyProof.Rows L2
/-! ### sum, max -/
def intsOf : List MV → Option (List Int)
  | [] => some []
  | .int i :: l => (intsOf l).map (i :: ·)
  | _ :: _ => none
theorem ints_rv {K : PySem.W.Frag} {H : Hp} {ρ : List Addr} : ∀ {l : List MV} {vs : List V} {ns : List Int}, RVs K H ρ l vs → intsOf l = some ns → vs = ns.map V.int
  | [], vs, ns, r, h => by
    rw [rvs_nil] at r
    cases h
    exact r
  | .int i :: l, vs, ns, r, h => by
    rw [rvs_cons] at r
    obtain ⟨v, t, rfl, r1, r2⟩ := r
    rw [rv_int] at r1
    unfold intsOf at h
    cases e : intsOf l with
    | none => rw [e] at h; cases h
    | some ms =>
      rw [e] at h
      cases h
      rw [r1, ints_rv r2 e]
      rfl
  | .non :: _, _, _, _, h => by cases h
  | .bl _ :: _, _, _, _, h => by cases h
  | .str _ :: _, _, _, _, h => by cases h
  | .tup _ :: _, _, _, _, h => by cases h
  | .ref _ :: _, _, _, _, h => by cases h
  | .rol _ :: _, _, _, _, h => by cases h
theorem intsOf_map (ns : List Int) : intsOf (ns.map MV.int) = some ns := by
  induction ns with
  | nil => rfl
  | cons n ns ih => rw [List.map_cons, intsOf, ih]; rfl
theorem intsOf_eq : ∀ {l : List MV} {ns : List Int}, intsOf l = some ns → l = ns.map MV.int
  | [], ns, h => by cases h; rfl
  | .int i :: l, ns, h => by
    unfold intsOf at h
    cases e : intsOf l with
    | none => rw [e] at h; cases h
    | some ms =>
      rw [e] at h
      cases h
      rw [intsOf_eq e]
      rfl
  | .non :: _, _, h => by cases h
  | .bl _ :: _, _, h => by cases h
  | .str _ :: _, _, h => by cases h
  | .tup _ :: _, _, h => by cases h
  | .ref _ :: _, _, h => by cases h
  | .rol _ :: _, _, h => by cases h
def fSum : List MV → Hm → R MV
  | [.tup l], M => (match intsOf l with
    | some ns => .ok (.int ns.sum) M
    | none => .bad)
  | [.ref i], M => (match M[i]? with
    | some (.lst l) => (match intsOf l with
      | some ns => .ok (.int ns.sum) M
      | none => .bad)
    | _ => .bad)
  | _, _ => .bad
def rSumT (K : PySem.W.Frag) : List V → Hp → VK → Prop := fun vs H Q => ∃ (a : Addr) (ns : List Int), vs = [V.ref a] ∧ SqT K H a (ns.map V.int) ∧ Q (.int ns.sum) H
abbrev rSumM (K : PySem.W.Frag) : List V → Hp → VK → Prop := fun vs H Q => rSumT K vs H Q ∨ L2.rSum K vs H Q
theorem cr_sumT {X : Cx} (hc : X.calm = true) : CallR X (.builtin "sum") (rSumT X.K) := by
  intro pins s σ H vs us Q I r h
  obtain ⟨a, ns, rfl, hs, q⟩ := h
  obtain ⟨its, rv, hl, _⟩ := I.tuple hs
  rw [Vals.ref1 r]
  have hi : IntsAre its ns := rv.ints
  obtain ⟨xs, hx⟩ := hi.allInts.items
  have hn : numsOf its.toArray.toList = ns := by rw [show its.toArray.toList = its from rfl, hi.numsOf]
  have hl : s.heap.IsTuple a its.toArray := hl
  rw [hx] at hl hn
  rw [nums_intItems] at hn
  refine PySem.W.ktm_sumG (I.ok.hd hc) hl fun h' tk t' hk => ?_
  rw [preSum_eq, List.take_of_length_le (by simp), hn]
  exact ⟨.int _, H, I.kept hk, ⟨_, rfl⟩, q⟩
theorem call_sumM {X : Cx} (hc : X.calm = true) : CallR X (.builtin "sum") (rSumM X.K) := (cr_sumT hc).or (cr_sum hc)
theorem sim_sum {C : Cfg} : SimC C fSum (rSumM C.K) := by
  intro ρ H M ds xs Q G rh rxs p
  unfold fSum at p
  split at p
  · obtain ⟨v, rfl, rv⟩ := one_rv rxs
    rw [rv_tup] at rv
    obtain ⟨a, ys, rfl, h1, h2⟩ := rv
    split at p
    · rename_i ns hi
      rw [ints_rv h2 hi] at h1
      exact .inl ⟨a, ns, rfl, h1, p.val rh (rv_int.mpr rfl)⟩
    · exact p.elim
  · obtain ⟨v, rfl, rv⟩ := one_rv rxs
    rw [rv_ref] at rv
    obtain ⟨a, ha, rfl⟩ := rv
    split at p
    · rename_i l hm
      obtain ⟨ys, q1, q2⟩ := rh.at hm ha
      split at p
      · rename_i ns hi
        rw [ints_rv q2 hi] at q1
        exact .inr ⟨a, ns, rfl, SqL.of q1, p.val rh (rv_int.mpr rfl)⟩
      · exact p.elim
    · exact p.elim
  · exact p.elim
def fMax2 : List MV → Hm → R MV
  | [.int i, .int j], M => .ok (.int (if j > i then j else i)) M
  | _, _ => .bad
theorem sim_max2 {C : Cfg} : SimC C fMax2 (fun xs H Q => ∃ i j, xs = [.int i, .int j] ∧ Q (.int (if j > i then j else i)) H) := by
  intro ρ H M ds xs Q G rh rxs p
  unfold fMax2 at p
  split at p
  · obtain ⟨v, w, rfl, r1, r2⟩ := two_rv rxs
    rw [rv_int] at r1 r2
    subst r1; subst r2
    exact ⟨_, _, rfl, p.val rh (rv_int.mpr rfl)⟩
  · exact p.elim
/-! ### len(set(tuple of numbers)) -/
def dist : List Int → List Int
  | [] => []
  | x :: r => if x ∈ r then dist r else x :: dist r
theorem mem_dist {y : Int} : ∀ {l : List Int}, y ∈ dist l ↔ y ∈ l
  | [] => by simp [dist]
  | x :: r => by
    unfold dist
    split
    · rename_i h
      rw [mem_dist]
      constructor
      · exact List.mem_cons_of_mem _
      · intro z
        rcases List.mem_cons.mp z with z | z
        · rw [z]; exact h
        · exact z
    · rw [List.mem_cons, List.mem_cons, mem_dist]
theorem dist_nodup : ∀ l : List Int, (dist l).Nodup
  | [] => by simp [dist]
  | x :: r => by
    unfold dist
    split
    · exact dist_nodup r
    · rename_i h
      exact List.nodup_cons.mpr ⟨fun z => h (mem_dist.mp z), dist_nodup r⟩
def eLenSet (a : Fe) : Fe := fun env M => (a env M).bind fun x M1 => match x with
  | .tup l => (match intsOf l with
    | some ns => if ns.length ≤ 4000 then .ok (.int (dist ns).length) M1 else .bad
    | none => .bad)
  | _ => .bad
section
variable {X : Cx} {C : Cfg} {W : WX}
theorem m_lenSet {a : Expr} {a' : Fe} {p p2 q pos : Pos} (hC : C.K = X.K) (hm : X.mg "len" = none) (hm2 : X.mg "set" = none) (ha : PE X a (tE C W a')) (hg : Gl X "len" := by rfl) (hg2 : Gl X "set" := by rfl) (hc : X.calm = true := by rfl)
    (na : starEach [a] X.env = (false, eval a X.env) :: starEach [] X.env := by rfl) : PE X (.Call (.Name "len" p) [.Call (.Name "set" p2) [a] [] q] [] pos) (tE C W (eLenSet a')) := by
  refine ⟨fun pins s σ H Q I h => ?_⟩
  obtain ⟨ρ, M, env, rh, re, p⟩ := h
  refine Call_ (ld_blt I hg hm boot_len ?_)
  refine PyProof.Rows.callWith_builtin1 (PyProof.Rows.args_cons ?_ rfl) rfl rfl
  refine Call_ (ld_blt I hg2 hm2 boot_set ?_)
  have h : tE C W a' σ H fun x H1 => ∃ (l : Addr) (ns : List Int), x = .ref l ∧ SqT X.K H1 l (ns.map V.int) ∧ ns.length ≤ 4000 ∧ Q (.int (dist ns).length) H1 := by
    refine ⟨ρ, M, env, rh, re, p.bind.imp (fun d M1 ρ1 H1 e1 rh1 p2 v rv => ?_) (fun _ _ _ _ _ _ q => q)⟩
    cases d with
    | tup l =>
      rw [rv_tup] at rv
      obtain ⟨t, xs, rfl, h1, h2⟩ := rv
      cases hi : intsOf l with
      | none => simp only [hi] at p2; exact p2.elim
      | some ns =>
        simp only [hi] at p2
        by_cases hl : ns.length ≤ 4000
        · rw [if_pos hl] at p2
          rw [ints_rv h2 hi] at h1
          exact ⟨t, ns, rfl, by rw [← hC]; exact h1, hl, p2.val rh1 (rv_int.mpr rfl)⟩
        · rw [if_neg hl] at p2
          exact p2.elim
    | _ => exact p2.elim
  refine PyProof.Rows.callWith_type1 (PyProof.Rows.args_cons (thn (ha.run pins s σ H _ I h) fun v s1 ⟨x, H1, I1, r1, q1⟩ => PyProof.Rows.args_nil ?_) na) na rfl
  obtain ⟨l, ns, rfl, hq, hl, q1⟩ := q1
  cases r1
  obtain ⟨its, r, pl, hz⟩ := I1.tuple hq
  refine L2.call_set_tupI ns (I1.ok.hd hc) pl (by simpa using r.ints) (by unfold scanBound; omega) fun h' tk c (SR : SetR X.w h' s1.heap.objs.size (fun j => decide (j ∈ ns)) c) hcl hk => ?_
  refine PyProof.Rows.args_nil ?_
  obtain ⟨o, es, ep, t, ho, hex, hd, hgood, hnd, hmem, hb, hf, hn, hrest⟩ := SR
  have e1 : c = (dist ns).length := by
    rw [← hn, ← Array.length_toList, ← List.length_map (f := keyOf)]
    exact ((List.perm_ext_iff_of_nodup hnd (dist_nodup ns)).mpr fun k => by rw [← hmem k, mem_dist, decide_eq_true_eq]).length_eq
  have I2 : Inv X pins σ H1 { s1 with heap := h', toks := tk } := I1.kept hk
  have q1 : Q (.int (es.size : Nat)) H1 := by rw [hn, e1]; exact q1
  exact call_len_set ho hex hd hf (by rw [hn] <;> omega) ⟨.int (es.size : Nat), H1, I2.tok _, ⟨_, rfl⟩, q1⟩
end
end Mi
namespace Mi
open PySem PySem.Spec PyProof.Rows L2
/-! ### list(range(n)) -/
def eRangeL (a : Fe) : Fe := fun env M => (a env M).bind fun x M1 => match x with
  | .int n => if 0 ≤ n ∧ n ≤ 1000000 then .ok (.ref M1.length) (M1 ++ [.lst ((List.range n.toNat).map fun k : Nat => .int k)]) else .bad
  | _ => .bad
theorem vals_range : ∀ {its : List Value} {k : Nat}, (∀ j v, its[j]? = some v → ∃ t, v = Value.int ((k + j : Nat) : Int) t) → Vals ((List.range' k its.length).map fun j : Nat => V.int j) its
  | [], _, _ => .nil
  | v :: its, k, h => by
    rw [List.length_cons, List.range'_succ, List.map_cons]
    refine .cons ?_ (vals_range fun j w hj => ?_)
    · obtain ⟨t, e⟩ := h 0 v rfl
      exact ⟨t, by simpa using e⟩
    · obtain ⟨t, e⟩ := h (j + 1) w hj
      exact ⟨t, by rw [e]; congr 1; omega⟩
section
variable {X : Cx} {C : Cfg} {W : WX}
theorem m_rangeL {e : Expr} {a' : Fe} {p p2 q pos : Pos} (hm : X.mg "list" = none) (hm2 : X.mg "range" = none) (ha : PE X e (tE C W a')) (hg : Gl X "list" := by rfl) (hg2 : Gl X "range" := by rfl) (hc : X.calm = true := by rfl)
    (na : starEach [e] X.env = (false, eval e X.env) :: starEach [] X.env := by rfl) (nb : starEach [.Call (.Name "range" p2) [e] [] q] X.env = (false, eval (.Call (.Name "range" p2) [e] [] q) X.env) :: starEach [] X.env := by rfl) :
    PE X (.Call (.Name "list" p) [.Call (.Name "range" p2) [e] [] q] [] pos) (tE C W (eRangeL a')) := by
  refine ⟨fun pins s σ H Q I h => ?_⟩
  obtain ⟨ρ, M, env, rh, re, p⟩ := h
  have h : tE C W a' σ H fun x H1 => ∃ n : Int, x = .int n ∧ 0 ≤ n ∧ n ≤ 1000000 ∧ ∀ l, H1 l = none → Q (.ref l) (upd H1 l (.lst ((List.range n.toNat).map fun k : Nat => V.int k))) := by
    refine ⟨ρ, M, env, rh, re, p.bind.imp (fun d M1 ρ1 H1 e1 rh1 p2 v rv => ?_) (fun _ _ _ _ _ _ q => q)⟩
    cases d with
    | int n =>
      rw [rv_int] at rv
      subst rv
      by_cases hn : 0 ≤ n ∧ n ≤ 1000000
      · simp only [if_pos hn] at p2
        refine ⟨n, rfl, hn.1, hn.2, fun l hl => p2.newL rh1 ?_ hl⟩
        have := rvs_ints (K := C.K) (H := H1) (ρ := ρ1) ((List.range n.toNat).map fun k : Nat => (k : Int))
        rw [List.map_map, List.map_map] at this
        exact this
      · simp only [if_neg hn] at p2
        exact p2.elim
    | _ => exact p2.elim
  refine Call_ (ld_blt I hg hm boot_list ?_)
  refine PyProof.Rows.callWith_type1 (PyProof.Rows.args_cons ?_ nb) nb rfl
  refine Call_ (ld_blt I hg2 hm2 boot_range ?_)
  refine PyProof.Rows.callWith_type1 (PyProof.Rows.args_cons (thn (ha.run pins s σ H _ I h) fun v s1 ⟨x, H1, I1, r1, q1⟩ => PyProof.Rows.args_nil ?_) na) na rfl
  obtain ⟨n, rfl, h0, h1, q1⟩ := q1
  obtain ⟨t, rfl⟩ := r1
  refine call_range_1 (PyProof.Rows.args_nil ?_)
  have I2 : Inv X pins σ H1 { s1 with heap := s1.heap.push { cls := .type "range", data := .fields #[.int 0 s1.toks, .int n t, .int 1 (s1.toks + 1)] }, toks := s1.toks + 1 + 1 } := I1.kept fun b o e => Heap.get?_push_of_some _ e
  refine call_list_range (n := n.toNat) (I1.ok.hd hc) (IsRange.new ..) (small_one (by decide) (by decide) (by omega) (by omega)) ?_ (by omega) fun h' tk acc' c' hk hS hacc => ?_
  · rw [rangeSize_one]; split <;> omega
  have hv : Vals ((List.range n.toNat).map fun k : Nat => V.int k) acc'.toList := by
    have := vals_range (its := acc'.toList) (k := 0) fun j v hj => by
      obtain ⟨u, e⟩ := hacc.2 j v (by simpa using hj)
      exact ⟨u, by rw [e]; congr 1; omega⟩
    rw [Array.length_toList, hacc.1, ← List.range_eq_range'] at this
    exact this
  exact ⟨.ref _, _, I2.laid (t' := tk) hk (Nat.le_refl _) (show ObjOk X.prog X.w _ h' _ (.lst _) from ⟨by rw [List.length_map, List.length_range, sizeLine_eq]; omega, acc'.toList, c', hv, by simpa using hS⟩), rfl, q1 _ (I2.hok.fresh (Nat.le_refl _))⟩
end
end Mi
namespace Mi
open PySem PySem.Spec PyProof.Rows L2
/-! ### d.update(e) -/
def fUpdD : MV → List MV → Hm → R MV
  | .ref k, [.ref j], M => (match M[k]? with
    | some (.dic l) => (match M[j]? with
      | some (.dic m) => if k ≠ j ∧ l.length + m.length ≤ SL then .ok .non (M.set k (.dic (putAll l m))) else .bad
      | _ => .bad)
    | _ => .bad)
  | _, _, _ => .bad
def rUpdD : V → List V → Hp → VK → Prop := fun x xs H Q => ∃ a b ks ks2, x = .ref a ∧ xs = [.ref b] ∧ a ≠ b ∧ H a = some (.dK ks) ∧ H b = some (.dK ks2) ∧ ks.length + ks2.length ≤ sizeLine ∧ Q .non (upd H a (.dK (mergeK ks ks2)))
theorem mt_updD {X : Cx} : MtR X "dict.update" rUpdD := by
  intro pins s σ H x xs v us Q I rx rv h
  obtain ⟨a, b, ks, ks2, rfl, rfl, hab, h1, h2, hz, q⟩ := h
  cases rx
  obtain ⟨u, rfl, ru⟩ := rv.one
  cases ru
  obtain ⟨z1, y1, vs1, kv1, d1⟩ := I.hok a _ h1
  obtain ⟨z2, y2, vs2, kv2, d2⟩ := I.hok b _ h2
  have l1 : ks.length = vs1.length := Paired.length kv1
  have l2 : ks2.length = vs2.length := Paired.length kv2
  refine call_meetsIn F.slot_dict_update d1.typeIs F.entry_dict_update (F.args_dict_update_2 _ _) (meets_dict_update (mixKind X.prog X.w) a b hab y2) ⟨vs1, vs2, d1, d2, by omega, fun h' d1' d2' sb => ?_⟩
  obtain ⟨o, es, ep, ho, _⟩ := id d1'
  refine ⟨.non, _, I.write (t' := s.toks) (by rw [h1]; trivial) (.inl rfl) (fun b u hb e => (sb.2 b hb).trans e) ⟨_, ho⟩ (show ObjOk X.prog X.w _ h' a (.dK (mergeK ks ks2)) from ⟨Nat.le_trans (length_mergeK _ _) hz, y1, _, KV.merge kv2 kv1, d1'⟩), rfl, q⟩
theorem sim_updD {C : Cfg} : SimM C fUpdD rUpdD := by
  intro ρ H M d ds x xs Q G rh rx rxs p
  unfold fUpdD at p
  split at p
  · rename_i k j
    obtain ⟨v, rfl, r⟩ := one_rv rxs
    rw [rv_ref] at rx r
    obtain ⟨a, ha, rfl⟩ := rx
    obtain ⟨b, hb, rfl⟩ := r
    split at p
    · rename_i l hk
      split at p
      · rename_i m hj
        split at p
        · rename_i hc
          obtain ⟨ks, q1, q2⟩ := rh.at hk ha
          obtain ⟨ks2, q3, q4⟩ := rh.at hj hb
          have hab : a ≠ b := fun z => by
            subst z
            exact hc.1 (RH.set.nodup_ixA rh.nd ha hb)
          have e4 : Ext C.K ρ ρ H (upd H a (.dK (mergeK ks ks2))) := Ext.wr (C := C) q1 trivial (List.mem_of_getElem? ha)
          refine ⟨a, b, ks, ks2, rfl, rfl, hab, q1, q3, by rw [q2.len, q4.len, sizeLine_eq]; exact hc.2, ?_⟩
          exact p ρ _ e4 (rh.set ha ⟨_, upd_same, (RK.merge q4 q2).mo e4.toMo⟩) .non (rv_non.mpr rfl)
        · exact p.elim
      · exact p.elim
    · exact p.elim
  · exact p.elim
/-! ### tuple * int, text * int -/
def fMulA : MV → MV → Hm → R MV
  | .tup l, .int k, M => if l ≠ [] ∧ 2 ≤ k ∧ k ≤ 1000 ∧ l.length ≤ 1000 then .ok (.tup (List.replicate k.toNat l).flatten) M else .bad
  | .str s, .int k, M => if s ≠ [] ∧ 2 ≤ k ∧ k ≤ 1000 ∧ s.length ≤ 1000 then .ok (.str (List.replicate k.toNat s).flatten) M else .bad
  | d, e, M => fMul d e M
def rRepS : R2 := fun x y H Q => ∃ (s : Tx) (k : Int), x = .str (T s) ∧ y = .int k ∧ s ≠ [] ∧ 2 ≤ k ∧ k ≤ 1000 ∧ s.length ≤ 1000 ∧ Q (.str (T (List.replicate k.toNat s).flatten)) H
theorem foldl_cps (s : Tx) : ∀ (n : Nat) (a : Tx), (List.replicate n (T s).cps).foldl (· ++ ·) a.toArray = (a ++ (List.replicate n s).flatten).toArray
  | 0, a => by simp
  | n + 1, a => by
    rw [List.replicate_succ, List.replicate_succ, List.foldl_cons]
    have e : a.toArray ++ (T s).cps = (a ++ s).toArray := by
      show a.toArray ++ s.toArray = _
      simp
    rw [e, foldl_cps s n, List.flatten_cons, List.append_assoc]
theorem op_repS {X : Cx} : OpR X (binaryOp .Mult) rRepS := by
  intro pins s σ H x y v u Q I rx ry h
  obtain ⟨t, k, rfl, rfl, hne, h1, h2, hz, q⟩ := h
  obtain ⟨t1, rfl⟩ := rx
  obtain ⟨t2, rfl⟩ := ry
  have hl : (T t).length = t.length := T_len t
  have hlen : 0 < t.length := List.length_pos_iff.mpr hne
  have c1 : (k == 1 || (T t).length == 0) = false := by
    rw [Bool.or_eq_false_iff]
    exact ⟨beq_eq_false_iff_ne.mpr (by omega), beq_eq_false_iff_ne.mpr (by omega)⟩
  have hm : t.length * k.toNat ≤ 1000 * 1000 := Nat.mul_le_mul hz (by omega)
  refine PySem.P.mul_str (by rw [decide_eq_false (by omega), decide_eq_false (by omega)]; rfl) (fun _ _ => ?_) (fun _ _ => ?_) ?_
  · rw [hl]
    have : (1000 : Int) ≤ (2 ^ 63 - 1) / k := Int.le_ediv_of_mul_le (by omega) (by omega)
    omega
  · rw [hl]
    unfold Builtin.Str.tooLong
    exact decide_eq_false (by rw [sizeLine_eq]; omega)
  · rw [if_neg (by omega), c1, if_neg Bool.false_ne_true]
    have e := foldl_cps t k.toNat []
    rw [List.nil_append] at e
    show Made.post (.str _) _ _
    rw [show ((List.replicate k.toNat (T t).cps).foldl (· ++ ·) #[] : Array Nat) = (List.replicate k.toNat t).flatten.toArray from e]
    have hlen2 : (List.replicate k.toNat t).flatten.length ≤ sizeLine := by
      rw [List.length_flatten, List.map_replicate, List.sum_replicate_nat, sizeLine_eq, Nat.mul_comm]
      omega
    exact ⟨by show (List.replicate k.toNat t).flatten.toArray.size ≤ _; simpa using hlen2, .str (T (List.replicate k.toNat t).flatten), H, I.tok _, ⟨_, rfl⟩, q⟩
def rMulA (K : PySem.W.Frag) : R2 := fun x y H Q => (L2.rRepT K x y H Q ∨ rRepS x y H Q) ∨ rMulM x y H Q
theorem op_mulA {X : Cx} : OpR X (binaryOp .Mult) (rMulA X.K) := (op_repT.or op_repS).or op_mulM
theorem rvs_rep {K : PySem.W.Frag} {H : Hp} {ρ : List Addr} {l : List MV} {xs : List V} (r : RVs K H ρ l xs) : ∀ n : Nat, RVs K H ρ (List.replicate n l).flatten (List.replicate n xs).flatten
  | 0 => RVs.nil
  | n + 1 => by
    rw [List.replicate_succ, List.replicate_succ, List.flatten_cons, List.flatten_cons]
    exact r.app (rvs_rep r n)
theorem sim_mulA {C : Cfg} : Sim2 C fMulA (rMulA C.K) := fun ρ H M d e x y Q G rh rx ry p => by
  unfold fMulA at p
  split at p
  · rename_i l k
    rw [rv_tup] at rx; rw [rv_int] at ry; subst ry
    obtain ⟨a, xs, rfl, h1, h2⟩ := rx
    split at p
    · rename_i hc
      refine .inl (.inl ⟨a, k, xs, rfl, rfl, h1, ?_, hc.2.1, hc.2.2.1, by rw [h2.len]; exact hc.2.2.2, fun q hq => p.newT rh (rvs_rep h2 _) hq⟩)
      intro z
      subst z
      exact hc.1 (List.eq_nil_of_length_eq_zero h2.len.symm)
    · exact p.elim
  · rename_i s k
    rw [rv_str] at rx; rw [rv_int] at ry; subst ry; subst rx
    split at p
    · rename_i hc
      exact .inl (.inr ⟨s, k, rfl, rfl, hc.1, hc.2.1, hc.2.2.1, hc.2.2.2, p.val rh (rv_str.mpr rfl)⟩)
    · exact p.elim
  · exact .inr (sim_mul ρ H M _ _ x y Q G rh rx ry p)
/-! ### try .. except C: suite -/
def sTry (b : Fs) (sub : Nat → Option Bool) (su : Fs) : Fs := fun env M => match b env M with
  | .exc x env1 M1 => (match sub x.cls with
    | some true => su env1 M1
    | some false => .exc x env1 M1
    | none => .bad)
  | r => r
section
variable {X : Cx} {C : Cfg} {W : WX}
/-- su must not raise -/
def suN (su : Fs) : Fs := fun env M => match su env M with
  | .exc _ _ _ => .bad
  | r => r
theorem m_try {x : Str} {c : Addr} {sub : Nat → Option Bool} {body suite : List Stmt} {b₀ : Stmt} {b' su : Fs} {np pos pos' : Pos} (tk : Takes X W) (hm : X.mg x = some (.ref c))
    (hsub : ∀ j b, sub j = some b → PySem.W.exmOne X.K (.ref (C.cA j)) (.ref c) = some b)
    (hb : ∀ (W' : WX) (pn : List (Addr × Obj)) (xe : Value → Shared → Prop), Takes (X.tr pn xe) W' → PassesOwn (model X.prog X.w) X.A X.env xe → PSs (X.tr pn xe) body (tS C W' b'))
    (hsu : ∀ (a : Addr) (oe : Obj) (pn : List (Addr × Obj)), PSs (X.suite a ((a, oe) :: pn)) (b₀ :: suite) (tS C W0 su))
    (hs : X.stack = X.env :: X.outer := by rfl) (hf : X.env.frame = some X.env.locals := by rfl) (hg : Gl X x := by rfl) (hdb : (x == ("__debug__" : Str)) = false := by decide) :
    PS X (.Try body [.ExceptHandler (some (.Name x np)) none (b₀ :: suite) pos'] [] [] pos) (tS C W (sTry b' sub (suN su))) := by
  refine PS.imp (ps_try_only (tb := fun W' => tS C W' b') (ts := fun _ _ _ => tS C W0 su) (Wout := W) hs hf ⟨hg, hdb, .inl hm⟩ tk hb fun a oe cls d pn _ _ => hsu a oe pn) fun D σ H h => ?_
  obtain ⟨ρ, M, env, rh, re, p⟩ := h
  refine ⟨ρ, M, env, rh, re, ?_⟩
  unfold sTry at p
  cases e : b' env M with
  | bad => rw [e] at p; exact p
  | ok o env1 M1 => rw [e] at p; cases o <;> exact p
  | exc x env1 M1 =>
    rw [e] at p
    have p : PostS C ρ H (match sub x.cls with
      | some true => suN su env1 M1
      | some false => .exc x env1 M1
      | none => .bad) D W := p
    intro ρ' H' σ' cls dd ex rh' re' rx
    cases hs2 : sub x.cls with
    | none => rw [hs2] at p; exact p.elim
    | some b =>
      rw [hs2] at p
      refine ⟨b, by rw [rx.1]; exact hsub _ _ hs2, fun hb a ha => ?_, fun hb => ?_⟩
      · subst hb
        have p : PostS C ρ H (suN su env1 M1) D W := p
        refine ⟨ρ', M1, env1, rh', re', ?_⟩
        have p := p.ext ex
        unfold suN at p
        cases e2 : su env1 M1 with
        | ok o env2 M2 => rw [e2] at p; cases o <;> exact p
        | exc x2 env2 M2 => rw [e2] at p; exact p.elim
        | bad => rw [e2] at p; exact p
      · subst hb
        have p : PostS C ρ H (.exc x env1 M1) D W := p
        exact p ρ' H' σ' cls dd ex rh' re' rx
end
end Mi
namespace Mi
open PySem PySem.Spec PyProof.Rows L2
/-! ### D.get(x, y), D a written dict -/
structure WDG (K : PySem.W.Frag) (w : World) (mg : Str → Option Value) (x : Str) (l : List (Tx × MV)) : Prop where
  at_ : ∃ p es n, mg x = some (.ref p) ∧ KDict K w p es n ∧ ∀ s : Tx, (∀ d, l.lookup s = some d → ∃ u v, PySem.W.nsIn K p (T s) = some (some u) ∧ RelV v u ∧ ∀ H ρ, RV K H ρ d v) ∧ (l.lookup s = none → PySem.W.nsIn K p (T s) = some none)
theorem lookup_keys {l : List (Tx × MV)} {s : Tx} : (l.lookup s).isSome = decide (s ∈ l.map (·.1)) := by
  induction l with
  | nil => simp
  | cons p l ih =>
    obtain ⟨k, d⟩ := p
    rw [List.lookup_cons]
    by_cases h : s = k
    · subst h; simp
    · rw [beq_eq_false_iff_ne.mpr h]
      show (l.lookup s).isSome = _
      rw [ih]; simp [h]
theorem wdg_of {K : PySem.W.Frag} {w : World} {h : Heap} {mg : Str → Option Value} {x : Str} {p : Addr} {l : List (Tx × MV)} {es : Array DictEntry} {n : Nat} (X : K.In h) (G : h.Ns mainGlobals mg) (a : PySem.W.nsIn K mainGlobals x = some (some (.ref p)))
    (hl : K.lookup p = some ⟨.type "dict", none, .dict es n, #[]⟩) (hk : PySem.W.KeysLit w.params es.toList) (lo : (p == sysModules) = false) (ks : KeysAre es.toList (l.map (·.1))) (al : WDs K p l) : WDG K w mg x l := by
  refine ⟨p, es, n, PySem.W.mg_of X G a, ⟨hl, hk, lo⟩, fun s => ⟨fun d hs => ?_, fun hs => ?_⟩⟩
  · obtain ⟨u, h1, h2⟩ := wds_at al s d hs
    obtain ⟨v, r, q⟩ := h2.rv
    exact ⟨u, v, h1, r, q⟩
  · obtain ⟨_, _, _, e, D, hq⟩ := (wdk_of X G a hl hk lo ks).at_
    have e2 := PySem.W.mg_of X G a
    rw [e2] at e
    cases e
    obtain ⟨r, h1, h2⟩ := hq s
    rw [← lookup_keys, hs] at h2
    cases r with
    | none => exact h1
    | some _ => cases h2
theorem WDG.k {K : PySem.W.Frag} {w : World} {mg : Str → Option Value} {x : Str} {l : List (Tx × MV)} (h : WDG K w mg x l) : WDK K w mg x (l.map (·.1)) := by
  obtain ⟨p, es, n, h1, h2, h3⟩ := h.at_
  refine ⟨p, es, n, h1, h2, fun s => ?_⟩
  rw [← lookup_keys]
  cases hs : l.lookup s with
  | none => exact ⟨none, (h3 s).2 hs, rfl⟩
  | some d =>
    obtain ⟨u, v, q, _⟩ := (h3 s).1 d hs
    exact ⟨some u, q, rfl⟩
def eKdGet (l : List (Tx × MV)) (a b : Fe) : Fe := fun env M => (a env M).bind fun x M1 => (b env M1).bind fun z M2 => match x with
  | .str s => .ok ((l.lookup s).getD z) M2
  | _ => .bad
section
variable {X : Cx} {C : Cfg} {W : WX}
theorem m_kdGet {x : Str} {l : List (Tx × MV)} {e f : Expr} {a' b' : Fe} {p apos cpos : Pos} (hC : C.K = X.K) (h : WDG X.K X.w X.mg x l) (ha : PE X e (tE C W a')) (hb : PE X f (tE C W b')) (hg : Gl X x := by rfl) (hd : (x == ("__debug__" : Str)) = false := by decide) (m : M2 X (.Name x p) "get" apos e f cpos := by exact ⟨by rfl, by rfl, by rfl, by rfl⟩) :
    PE X (.Call (.Attribute (.Name x p) "get" apos) [e, f] [] cpos) (tE C W (eKdGet l a' b')) := by
  obtain ⟨q, es, n, hmq, D, hq⟩ := h.at_
  refine ⟨fun pins s σ H Q I h => ?_⟩
  obtain ⟨ρ, M, env, rh, re, p⟩ := h
  refine wpAny_Call_method m.base m.few m.line PySem.F.plainAttrs_dict PySem.F.slot_dict_get PySem.F.type_dict_get (ld_glob I hg hmq ?_ hd)
  have mo : s.heap.MapOf (PySem.strKind X.prog X.w) q (fun k => findBy Value.isStrOf es k) := PySem.W.mapOf_K (prog := X.prog) (w := X.w) I.kIn D.at_ D.lit
  refine ⟨mo.typeIs, mo.noDict, ?_⟩
  rw [m.trees]
  have h1 : tE C W a' σ H fun y H1 => tE C W b' σ H1 fun z H2 => ∃ (s : Tx) (r : Option Value) (v : V), y = .str (T s) ∧ PySem.W.nsIn X.K q (T s) = some r ∧ (match r with
    | some u => RelV v u
    | none => v = z) ∧ Q v H2 := by
    refine ⟨ρ, M, env, rh, re, p.bind.imp (fun y M1 ρ1 H1 e1 rh1 p1 vy ry => ?_) (fun _ _ _ _ _ _ q => q)⟩
    refine ⟨ρ1, M1, env, rh1, re.mono e1, p1.bind.imp (fun z M2 ρ2 H2 e2 rh2 p2 vz rz => ?_) (fun _ _ _ _ _ _ q => q)⟩
    cases y with
    | str t =>
      rw [rv_str] at ry
      subst ry
      have p2 : Post C ρ2 H2 (.ok ((l.lookup t).getD z) M2) (Fv C Q) (fun x _ ρ' H' => ∀ cls dd, RX C H' ρ' x cls dd → W cls dd σ H') := p2
      cases hl : l.lookup t with
      | none =>
        rw [hl] at p2
        exact ⟨t, none, vz, rfl, (hq t).2 hl, rfl, p2.val rh2 rz⟩
      | some d =>
        rw [hl] at p2
        obtain ⟨u, v, n1, n2, n3⟩ := (hq t).1 d hl
        exact ⟨t, some u, v, rfl, n1, n2, p2.val rh2 (by rw [hC]; exact n3 H2 ρ2)⟩
    | _ => exact p2.elim
  refine wpAny_dict_get2 (knd := PySem.strKind X.prog X.w) D.low (thn (ha.run pins s σ H _ I h1) fun iv s2 ⟨y, H2, I2, ry, q2⟩ => thn (hb.run pins s2 σ H2 _ I2 q2) fun fv s3 ⟨z, H3, I3, rz, q3⟩ => ?_)
  obtain ⟨t, r, v, rfl, n1, n2, q4⟩ := q3
  obtain ⟨tk, rfl⟩ := ry
  refine ⟨T t, _, PySem.strKind_is X.prog X.w (T t) tk, PySem.W.mapOf_K (prog := X.prog) (w := X.w) I3.kIn D.at_ D.lit, ?_⟩
  rw [PySem.W.find_K D.at_ n1]
  cases r with
  | none =>
    subst n2
    exact ⟨v, H3, I3.tok _, rz, q4⟩
  | some u => exact ⟨v, H3, I3.tok _, n2, q4⟩
end
end Mi
namespace Mi
open PySem PySem.Spec PyProof.Rows L2
/-! ### x in t, t a tuple of any data -/
def fInDG (g : Bool → Bool) (x y : MV) (M : Hm) : R MV := match pyD 60 M x, pyD 60 M y with
  | some d, some (.tuple ds) => if SeqAt.shaped d && SeqAt.shaped (.tuple ds) then .ok (.bl (g (ds.any fun z => PyData.eqv z d))) M else .bad
  | _, _ => .bad
def rInTD (g : Bool → Bool) (K : PySem.W.Frag) : R2 := fun x y H Q => ∃ d ds, Dp K H x d ∧ Dp K H y (.tuple ds) ∧ SeqAt.shaped d = true ∧ SeqAt.shaped (.tuple ds) = true ∧ Q (.bl (g (ds.any fun z => PyData.eqv z d))) H
section
variable {X : Cx}
theorem op_inTD (hu : X.A.units + 65 < cLine) : OpR X (compareOp .In) (rInTD id X.K) := by
  intro pins s σ H x y v u Q I rx ry h
  obtain ⟨d, ds, hd, he, sd, se, q⟩ := h
  obtain ⟨as, r1⟩ := Dp.reads I d x v hd rx
  obtain ⟨bs, r2⟩ := Dp.reads I (.tuple ds) y u he ry
  exact SeqAt.in_tuple_reads r2 r1 (SeqAt.canLay_of_shaped se) (SeqAt.canLay_of_shaped sd) (room_in_shaped sd hu) ⟨.bl _, H, I, rfl, q⟩
theorem op_notInTD (hu : X.A.units + 65 < cLine) : OpR X (compareOp .NotIn) (rInTD not X.K) := by
  intro pins s σ H x y v u Q I rx ry h
  obtain ⟨d, ds, hd, he, sd, se, q⟩ := h
  obtain ⟨as, r1⟩ := Dp.reads I d x v hd rx
  obtain ⟨bs, r2⟩ := Dp.reads I (.tuple ds) y u he ry
  exact SeqAt.notIn_tuple_reads r2 r1 (SeqAt.canLay_of_shaped se) (SeqAt.canLay_of_shaped sd) (room_in_shaped sd hu) ⟨.bl _, H, I, rfl, q⟩
theorem sim_inTD {C : Cfg} {g : Bool → Bool} : Sim2 C (fInDG g) (rInTD g C.K) := by
  intro ρ H M d e x y Q G rh rx ry p
  unfold fInDG at p
  split at p
  · rename_i a ds h1 h2
    split at p
    · rename_i hs
      rw [Bool.and_eq_true] at hs
      exact ⟨a, ds, dp_of rh 60 _ _ _ rx h1, dp_of rh 60 _ _ _ ry h2, hs.1, hs.2, p.val rh (rv_bl.mpr rfl)⟩
    · exact p.elim
  · exact p.elim
end
end Mi
namespace Mi
open PySem L2
theorem hu_five {k : Nat} {A : Around} (r : Room k A) : A.units + 65 < cLine := by have := r.un; omega
end Mi
set_option maxRecDepth 100000
namespace Mi
/-! what is left out -/
@[irreducible] def gcQ (M M' : Hm) (d : MV) (Q : MV → Hm → Prop) : Prop := Q (gcV M M' d).1 (gcV M M' d).2
@[irreducible] def gcE (M M' : Hm) (x : MX) (E : MX → Hm → Prop) : Prop := E x (gcX M M' x)
theorem okH_app : ∀ (M G : Hm) (k : Nat), okH k M (M ++ G) = true
  | [], G, k => rfl
  | a :: M, G, k => by
    show ((beqO a a || rfsO k a) && okH k M (M ++ G)) = true
    rw [beqO_rfl, okH_app M G k]
    rfl
theorem okH_rfl (M : Hm) (k : Nat) : okH k M M = true := by
  have := okH_app M [] k
  rwa [List.append_nil] at this
theorem okH_set : ∀ (M M' : Hm) (k a : Nat) (o : MO), okH k M M' = true → rfsO k o = true → okH k M (M'.set a o) = true
  | [], M', k, a, o, _, _ => by cases M' <;> rfl
  | x :: M, [], k, a, o, h, _ => by unfold okH at h; cases h
  | x :: M, y :: M', k, a, o, h, r => by
    unfold okH at h
    rw [Bool.and_eq_true] at h
    cases a with
    | zero =>
      show ((beqO x o || rfsO k o) && okH k M M') = true
      rw [r, h.2, Bool.or_true]
      rfl
    | succ a =>
      show ((beqO x y || rfsO k y) && okH k M (M'.set a o)) = true
      rw [h.1, okH_set M M' k a o h.2 r]
      rfl
theorem okH_more : ∀ (M M' G : Hm) (k : Nat), okH k M M' = true → okH k M (M' ++ G) = true
  | [], M', G, k, _ => by cases M' <;> rfl
  | x :: M, [], G, k, h => by unfold okH at h; cases h
  | x :: M, y :: M', G, k, h => by
    unfold okH at h
    rw [Bool.and_eq_true] at h
    show ((beqO x y || rfsO k y) && okH k M (M' ++ G)) = true
    rw [h.1, okH_more M M' G k h.2]
    rfl
theorem gcV_len {M M' : Hm} {d : MV} (h : M'.length = M.length) : gcV M M' d = (d, M') := by
  unfold gcV
  split
  · split
    · rw [← h, List.take_length]
    · cases d with
      | ref j =>
        simp only
        cases hj : M'[j]? with
        | none => rfl
        | some o =>
          have := (List.getElem?_eq_some_iff.mp hj).1
          simp only
          rw [if_neg]
          intro z
          rw [Bool.and_eq_true, decide_eq_true_eq] at z
          omega
      | _ => rfl
  · rfl
theorem gcQ_len {M M' : Hm} {d : MV} {Q : MV → Hm → Prop} (h : M'.length = M.length) : gcQ M M' d Q = Q d M' := by
  unfold gcQ
  rw [gcV_len h]
@[simp ↓] theorem gcQ_rfl {M : Hm} {d : MV} {Q : MV → Hm → Prop} : gcQ M M d Q = Q d M := gcQ_len rfl
@[simp ↓] theorem gcQ_set {M : Hm} {a : Nat} {o : MO} {d : MV} {Q : MV → Hm → Prop} : gcQ M (M.set a o) d Q = Q d (M.set a o) := gcQ_len List.length_set
/-- what stood may have been changed; what is new is left out -/
theorem gcQ_gen {M M1 G : Hm} {d : MV} {Q : MV → Hm → Prop} (hl : M1.length = M.length) (hk : okH M.length M M1 = true) (h : rfs M.length d = true) : gcQ M (M1 ++ G) d Q = Q d M1 := by
  unfold gcQ gcV
  rw [if_pos (okH_more _ _ _ _ hk), if_pos h]
  show Q d ((M1 ++ G).take M.length) = _
  rw [← hl, List.take_left]
@[simp] theorem gcQ_app {M G : Hm} {d : MV} {Q : MV → Hm → Prop} (h : rfs M.length d = true) : gcQ M (M ++ G) d Q = Q d M := gcQ_gen rfl (okH_rfl _ _) h
@[simp] theorem gcQ_setapp {M G : Hm} {a : Nat} {o : MO} {d : MV} {Q : MV → Hm → Prop} (ho : rfsO M.length o = true) (h : rfs M.length d = true) : gcQ M (M.set a o ++ G) d Q = Q d (M.set a o) :=
  gcQ_gen List.length_set (okH_set _ _ _ _ _ (okH_rfl _ _) ho) h
/-- a new object that is told -/
theorem gcQ_newG {M M1 G : Hm} {i : Nat} {o : MO} {Q : MV → Hm → Prop} (hl : M1.length = M.length) (hk : okH M.length M M1 = true) (hi : G[i]? = some o) (ho : rfsO M.length o = true) : gcQ M (M1 ++ G) (.ref (M.length + i)) Q = Q (.ref M.length) (M1 ++ [o]) := by
  unfold gcQ gcV
  rw [if_pos (okH_more _ _ _ _ hk), if_neg (by unfold rfs; simp)]
  have e : (M1 ++ G)[M.length + i]? = some o := by
    rw [List.getElem?_append_right (by omega), hl, Nat.add_sub_cancel_left]
    exact hi
  simp only [e]
  rw [if_pos (by rw [ho, decide_eq_true (Nat.le_add_right _ _)]; rfl)]
  show Q _ ((M1 ++ G).take M.length ++ [o]) = _
  rw [← hl, List.take_left]
@[simp] theorem gcQ_new {M G : Hm} {i : Nat} {o : MO} {Q : MV → Hm → Prop} (hi : G[i]? = some o) (ho : rfsO M.length o = true) : gcQ M (M ++ G) (.ref (M.length + i)) Q = Q (.ref M.length) (M ++ [o]) := gcQ_newG rfl (okH_rfl _ _) hi ho
@[simp] theorem gcQ_new0 {M G : Hm} {o : MO} {Q : MV → Hm → Prop} (ho : rfsO M.length o = true) : gcQ M (M ++ o :: G) (.ref M.length) Q = Q (.ref M.length) (M ++ [o]) := gcQ_new (i := 0) rfl ho
@[simp] theorem gcQ_setnew0 {M G : Hm} {a : Nat} {o u : MO} {Q : MV → Hm → Prop} (hu : rfsO M.length u = true) (ho : rfsO M.length o = true) : gcQ M (M.set a u ++ o :: G) (.ref M.length) Q = Q (.ref M.length) (M.set a u ++ [o]) :=
  gcQ_newG (i := 0) List.length_set (okH_set _ _ _ _ _ (okH_rfl _ _) hu) rfl ho
@[simp] theorem gcQ_setnew {M G : Hm} {a i : Nat} {o u : MO} {Q : MV → Hm → Prop} (hu : rfsO M.length u = true) (hi : G[i]? = some o) (ho : rfsO M.length o = true) : gcQ M (M.set a u ++ G) (.ref (M.length + i)) Q = Q (.ref M.length) (M.set a u ++ [o]) :=
  gcQ_newG List.length_set (okH_set _ _ _ _ _ (okH_rfl _ _) hu) hi ho
theorem gcX_gen {M M1 G : Hm} {x : MX} {E : MX → Hm → Prop} (hl : M1.length = M.length) (hk : okH M.length M M1 = true) (h : (match x.fs with | none => true | some fs => rfsF M.length fs) = true) : gcE M (M1 ++ G) x E = E x M1 := by
  unfold gcE gcX
  rw [if_pos (okH_more _ _ _ _ hk)]
  have e : (M1 ++ G).take M.length = M1 := by rw [← hl, List.take_left]
  cases hx : x.fs with
  | none => simp only [hx, e]
  | some fs =>
    rw [hx] at h
    simp only
    rw [if_pos h, e]
@[simp] theorem gcE_app {M G : Hm} {c : Nat} {E : MX → Hm → Prop} : gcE M (M ++ G) ⟨c, none⟩ E = E ⟨c, none⟩ M := gcX_gen rfl (okH_rfl _ _) rfl
@[simp] theorem gcE_rfl {M : Hm} {x : MX} {E : MX → Hm → Prop} : gcE M M x E = E x M := by
  unfold gcE gcX
  split
  · cases x.fs with
    | none => simp only [List.take_length]
    | some fs =>
      simp only
      split
      · rw [List.take_length]
      · rfl
  · rfl
theorem gcE_len {M M' : Hm} {x : MX} {E : MX → Hm → Prop} (h : M'.length = M.length) : gcE M M' x E = E x M' := by
  unfold gcE gcX
  split
  · cases x.fs with
    | none => simp only [← h, List.take_length]
    | some fs =>
      simp only
      split
      · rw [← h, List.take_length]
      · rfl
  · rfl
@[simp] theorem rfs_non {k : Nat} : rfs k .non = true := by unfold rfs; rfl
@[simp] theorem rfs_bl {k : Nat} {b : Bool} : rfs k (.bl b) = true := by unfold rfs; rfl
@[simp] theorem rfs_int {k : Nat} {i : Int} : rfs k (.int i) = true := by unfold rfs; rfl
@[simp] theorem rfs_str {k : Nat} {s : Tx} : rfs k (.str s) = true := by unfold rfs; rfl
@[simp] theorem rfs_ref {k i : Nat} : rfs k (.ref i) = decide (i < k) := by unfold rfs; rfl
@[simp] theorem rfs_tup {k : Nat} {l : List MV} : rfs k (.tup l) = rfsL k l := by unfold rfs; rfl
@[simp] theorem rfs_rol {k : Nat} {l : List MV} : rfs k (.rol l) = rfsL k l := by unfold rfs; rfl
@[simp] theorem rfsL_nil {k : Nat} : rfsL k [] = true := by unfold rfsL; rfl
@[simp] theorem rfsL_cons {k : Nat} {d : MV} {l : List MV} : rfsL k (d :: l) = (rfs k d && rfsL k l) := by rw [rfsL]
@[simp] theorem rfsL_app {k : Nat} : ∀ {l m : List MV}, rfsL k (l ++ m) = (rfsL k l && rfsL k m)
  | [], m => by simp
  | d :: l, m => by
    show rfsL k (d :: (l ++ m)) = _
    rw [rfsL_cons, rfsL_cons, rfsL_app, Bool.and_assoc]
theorem rfsL_iff {k : Nat} : ∀ {l : List MV}, rfsL k l = true ↔ ∀ d ∈ l, rfs k d = true
  | [] => by simp
  | d :: l => by
    rw [rfsL_cons, Bool.and_eq_true, rfsL_iff]
    simp
@[simp] theorem rfsL_strs {k : Nat} {l : List Tx} : rfsL k (l.map MV.str) = true := by
  rw [rfsL_iff]
  intro d hd
  obtain ⟨s, _, rfl⟩ := List.mem_map.mp hd
  simp
@[simp] theorem rfsL_ints {k : Nat} {l : List Int} : rfsL k (l.map MV.int) = true := by
  rw [rfsL_iff]
  intro d hd
  obtain ⟨s, _, rfl⟩ := List.mem_map.mp hd
  simp
@[simp] theorem rfsO_lst {k : Nat} {l : List MV} : rfsO k (.lst l) = rfsL k l := rfl
@[simp] theorem rfsO_dic {k : Nat} {l : List (MV × MV)} : rfsO k (.dic l) = rfsP k l := rfl
@[simp] theorem rfsO_ins {k c : Nat} {l : List (Tx × MV)} : rfsO k (.ins c l) = rfsF k l := rfl
@[simp] theorem rfsP_nil {k : Nat} : rfsP k [] = true := rfl
@[simp] theorem rfsP_cons {k : Nat} {p : MV × MV} {l : List (MV × MV)} : rfsP k (p :: l) = (rfs k p.2 && rfsP k l) := rfl
@[simp] theorem rfsF_nil {k : Nat} : rfsF k [] = true := rfl
@[simp] theorem rfsF_cons {k : Nat} {p : Tx × MV} {l : List (Tx × MV)} : rfsF k (p :: l) = (rfs k p.2 && rfsF k l) := rfl
mutual
theorem rfs_le {k k' : Nat} (h : k ≤ k') : ∀ {d : MV}, rfs k d = true → rfs k' d = true
  | .non, _ => by simp
  | .bl _, _ => by simp
  | .int _, _ => by simp
  | .str _, _ => by simp
  | .tup l, q => by rw [rfs_tup] at q ⊢; exact rfsL_le h q
  | .ref i, q => by
    rw [rfs_ref, decide_eq_true_eq] at q ⊢
    omega
  | .rol l, q => by rw [rfs_rol] at q ⊢; exact rfsL_le h q
theorem rfsL_le {k k' : Nat} (h : k ≤ k') : ∀ {l : List MV}, rfsL k l = true → rfsL k' l = true
  | [], _ => by simp
  | d :: l, q => by
    rw [rfsL_cons, Bool.and_eq_true] at q ⊢
    exact ⟨rfs_le h q.1, rfsL_le h q.2⟩
end
/-- no places in it -/
def Pu (d : MV) : Prop := rfs 0 d = true
theorem Pu.rf {d : MV} (h : Pu d) (k : Nat) : rfs k d = true := rfs_le (Nat.zero_le k) h
theorem Pu.tup {l : List MV} (h : ∀ d ∈ l, Pu d) : Pu (.tup l) := by unfold Pu; rw [rfs_tup]; exact rfsL_iff.mpr h
theorem Pu.of {l : List MV} (h : Pu (.tup l)) : ∀ d ∈ l, Pu d := by unfold Pu at h; rw [rfs_tup] at h; exact rfsL_iff.mp h
@[simp] theorem pu_int {i : Int} : Pu (.int i) := rfs_int
@[simp] theorem pu_str {s : Tx} : Pu (.str s) := rfs_str
@[simp] theorem pu_bl {b : Bool} : Pu (.bl b) := rfs_bl
@[simp] theorem pu_non : Pu .non := rfs_non
@[simp] theorem pu_nil : Pu (.tup []) := Pu.tup fun _ h => absurd h List.not_mem_nil
@[simp] theorem pu_cons {d : MV} {l : List MV} : Pu (.tup (d :: l)) ↔ Pu d ∧ Pu (.tup l) := ⟨fun h => ⟨h.of d List.mem_cons_self, Pu.tup fun e he => h.of e (List.mem_cons_of_mem _ he)⟩, fun h => Pu.tup fun e he => by
  rcases List.mem_cons.mp he with q | q
  · rw [q]; exact h.1
  · exact h.2.of e q⟩
@[simp] theorem pu_app {l m : List MV} : Pu (.tup (l ++ m)) ↔ Pu (.tup l) ∧ Pu (.tup m) := ⟨fun h => ⟨Pu.tup fun e he => h.of e (List.mem_append_left _ he), Pu.tup fun e he => h.of e (List.mem_append_right _ he)⟩, fun h => Pu.tup fun e he => by
  rcases List.mem_append.mp he with q | q
  · exact h.1.of e q
  · exact h.2.of e q⟩
theorem Pu.rfL {l : List MV} (h : ∀ d ∈ l, Pu d) (k : Nat) : rfsL k l = true := rfsL_iff.mpr fun d hd => (h d hd).rf k
@[simp] theorem okH_nil {k : Nat} {M' : Hm} : okH k [] M' = true := by cases M' <;> rfl
@[simp] theorem okH_cons {k : Nat} {a b : MO} {M M' : Hm} : okH k (a :: M) (b :: M') = ((beqO a b || rfsO k b) && okH k M M') := rfl
@[simp] theorem beqO_self (a : MO) : beqO a a = true := beqO_rfl a
theorem okH_both : ∀ (M G G' : Hm) (k : Nat), okH k G G' = true → okH k (M ++ G) (M ++ G') = true
  | [], _, _, _, h => h
  | a :: M, G, G', k, h => by
    show ((beqO a a || rfsO k a) && okH k (M ++ G) (M ++ G')) = true
    rw [beqO_rfl, okH_both M G G' k h]
    rfl
theorem okH_len : ∀ {M M' : Hm} {k : Nat}, okH k M M' = true → M.length ≤ M'.length
  | [], _, _, _ => Nat.zero_le _
  | a :: M, [], k, h => by unfold okH at h; cases h
  | a :: M, b :: M', k, h => by
    unfold okH at h
    rw [Bool.and_eq_true] at h
    have := okH_len h.2
    simp only [List.length_cons]
    omega
theorem gcQ_any {M M' : Hm} {d : MV} {Q : MV → Hm → Prop} (hk : okH M.length M M' = true) (h : rfs M.length d = true) : gcQ M M' d Q = Q d (M'.take M.length) := by
  unfold gcQ gcV
  rw [if_pos hk, if_pos h]
@[simp] theorem gcQ_pre {M G G' : Hm} {d : MV} {Q : MV → Hm → Prop} (hk : okH (M.length + G.length) G G' = true) (h : rfs (M.length + G.length) d = true) : gcQ (M ++ G) (M ++ G') d Q = Q d (M ++ G'.take G.length) := by
  rw [gcQ_any (by rw [List.length_append]; exact okH_both M G G' _ hk) (by rw [List.length_append]; exact h), List.length_append, List.take_length_add_append]
@[simp] theorem gcQ_preset {M G G' : Hm} {a : Nat} {o : MO} {d : MV} {Q : MV → Hm → Prop} (ho : rfsO (M.length + G.length) o = true) (hk : okH (M.length + G.length) G G' = true) (h : rfs (M.length + G.length) d = true) : gcQ (M ++ G) (M.set a o ++ G') d Q = Q d (M.set a o ++ G'.take G.length) := by
  have hk2 : okH (M ++ G).length (M ++ G) (M.set a o ++ G') = true := by
    rw [List.length_append]
    by_cases ha : a < M.length
    · rw [← List.set_append_left _ _ ha]
      exact okH_set _ _ _ _ _ (okH_both M G G' _ hk) ho
    · rw [List.set_eq_of_length_le (Nat.le_of_not_lt ha)]
      exact okH_both M G G' _ hk
  rw [gcQ_any hk2 (by rw [List.length_append]; exact h), List.length_append]
  have : (M.set a o).length = M.length := List.length_set
  rw [← this, List.take_length_add_append]
end Mi
set_option maxRecDepth 100000
/-! What must hold ahead of a piece: the small language's own logic. No program here. -/
namespace Mi
/-- what holds by sight, but not to be seen through -/
theorem nr {P Q : Prop} (h : P = Q) : P = Q := h
@[simp] theorem SL_eq : SL = 16777216 := rfl
section
variable {α β : Type}
variable {Q : α → Hm → Prop} {Qb : β → Hm → Prop} {E : MX → Hm → Prop} {M : Hm} {env : Env}
end
def rdO {α : Type} (o : Option α) (F : α → Prop) : Prop := match o with | some d => F d | none => False
@[simp ↓] theorem rdO_some {α : Type} {d : α} {F : α → Prop} : rdO (some d) F = F d := nr rfl
@[simp ↓] theorem rdO_none {α : Type} {F : α → Prop} : rdO none F = False := nr rfl
theorem rdO_of {α : Type} {o : Option α} {d : α} (h : o = some d) (F : α → Prop) : rdO o F = F d := by rw [h]; rfl
def rdE : Env → Nat → (MV → Prop) → Prop
  | some d :: _, 0, F => F d
  | _ :: env, n + 1, F => rdE env n F
  | _, _, _ => False
@[simp ↓] theorem rdE_0 {d : MV} {env : Env} {F : MV → Prop} : rdE (some d :: env) 0 F = F d := nr rfl
@[simp ↓] theorem rdE_s {d : Option MV} {env : Env} {n : Nat} {F : MV → Prop} : rdE (d :: env) (n + 1) F = rdE env n F := by cases d <;> rfl
theorem rdE_eq {F : MV → Prop} : ∀ (env : Env) (i : Nat), rdE env i F = (match env[i]? with | some (some d) => F d | _ => False)
  | [], i => by cases i <;> rfl
  | none :: env, 0 => rfl
  | some d :: env, 0 => rfl
  | none :: env, n + 1 => rdE_eq env n
  | some d :: env, n + 1 => rdE_eq env n
def rdL (M : Hm) (k : Nat) (F : List MV → Prop) : Prop := match M[k]? with | some (.lst l) => F l | _ => False
theorem rdL_of {M : Hm} {k : Nat} {l : List MV} (h : M[k]? = some (.lst l)) (F : List MV → Prop) : rdL M k F = F l := by
  unfold rdL
  rw [h]
@[simp ↓] theorem rdL_last {M : Hm} {l : List MV} {F : List MV → Prop} : rdL (M ++ [.lst l]) M.length F = F l := rdL_of (by simp) F
theorem get_app {M G : Hm} {i : Nat} : (M ++ G)[M.length + i]? = G[i]? := by
  rw [List.getElem?_append_right (Nat.le_add_right _ _), Nat.add_sub_cancel_left]
theorem get_app0 {M G : Hm} : (M ++ G)[M.length]? = G[0]? := get_app (i := 0)
theorem get_old {M G : Hm} {k : Nat} {o : MO} (h : M[k]? = some o) : (M ++ G)[k]? = some o := by
  rw [List.getElem?_append_left (List.getElem?_eq_some_iff.mp h).1]
  exact h
def rdGo : Hm → Nat → (List MV → Prop) → Prop
  | .lst l :: _, 0, F => F l
  | _ :: G, n + 1, F => rdGo G n F
  | _, _, _ => False
@[simp ↓] theorem rdGo_0 {l : List MV} {G : Hm} {F : List MV → Prop} : rdGo (.lst l :: G) 0 F = F l := nr rfl
@[simp ↓] theorem rdGo_s {o : MO} {G : Hm} {n : Nat} {F : List MV → Prop} : rdGo (o :: G) (n + 1) F = rdGo G n F := by cases o <;> rfl
theorem rdGo_eq {F : List MV → Prop} : ∀ (G : Hm) (i : Nat), rdGo G i F = (match G[i]? with | some (.lst l) => F l | _ => False)
  | [], i => by cases i <;> rfl
  | .lst l :: G, 0 => rfl
  | .dic l :: G, 0 => rfl
  | .ins c l :: G, 0 => rfl
  | .lst l :: G, n + 1 => rdGo_eq G n
  | .dic l :: G, n + 1 => rdGo_eq G n
  | .ins c l :: G, n + 1 => rdGo_eq G n
@[simp ↓] theorem rdL_app {M G : Hm} {i : Nat} {F : List MV → Prop} : rdL (M ++ G) (M.length + i) F = rdGo G i F := by
  unfold rdL
  rw [get_app, rdGo_eq]
@[simp ↓] theorem rdL_app0 {M G : Hm} {F : List MV → Prop} : rdL (M ++ G) M.length F = rdGo G 0 F := rdL_app (i := 0)
theorem rdL_old {M G : Hm} {k : Nat} {l : List MV} (h : M[k]? = some (.lst l)) {F : List MV → Prop} : rdL (M ++ G) k F = F l := rdL_of (get_old h) F
def rdD (M : Hm) (k : Nat) (F : List (MV × MV) → Prop) : Prop := match M[k]? with | some (.dic l) => F l | _ => False
theorem rdD_of {M : Hm} {k : Nat} {l : List (MV × MV)} (h : M[k]? = some (.dic l)) (F : List (MV × MV) → Prop) : rdD M k F = F l := by
  unfold rdD
  rw [h]
def rdGd : Hm → Nat → (List (MV × MV) → Prop) → Prop
  | .dic l :: _, 0, F => F l
  | _ :: G, n + 1, F => rdGd G n F
  | _, _, _ => False
@[simp ↓] theorem rdGd_0 {l : List (MV × MV)} {G : Hm} {F : List (MV × MV) → Prop} : rdGd (.dic l :: G) 0 F = F l := nr rfl
@[simp ↓] theorem rdGd_s {o : MO} {G : Hm} {n : Nat} {F : List (MV × MV) → Prop} : rdGd (o :: G) (n + 1) F = rdGd G n F := by cases o <;> rfl
theorem rdGd_eq {F : List (MV × MV) → Prop} : ∀ (G : Hm) (i : Nat), rdGd G i F = (match G[i]? with | some (.dic l) => F l | _ => False)
  | [], i => by cases i <;> rfl
  | .lst l :: G, 0 => rfl
  | .dic l :: G, 0 => rfl
  | .ins c l :: G, 0 => rfl
  | .lst l :: G, n + 1 => rdGd_eq G n
  | .dic l :: G, n + 1 => rdGd_eq G n
  | .ins c l :: G, n + 1 => rdGd_eq G n
@[simp ↓] theorem rdD_app {M G : Hm} {i : Nat} {F : List (MV × MV) → Prop} : rdD (M ++ G) (M.length + i) F = rdGd G i F := by
  unfold rdD
  rw [get_app, rdGd_eq]
@[simp ↓] theorem rdD_app0 {M G : Hm} {F : List (MV × MV) → Prop} : rdD (M ++ G) M.length F = rdGd G 0 F := rdD_app (i := 0)
theorem rdD_old {M G : Hm} {k : Nat} {l : List (MV × MV)} (h : M[k]? = some (.dic l)) {F : List (MV × MV) → Prop} : rdD (M ++ G) k F = F l := rdD_of (get_old h) F
@[simp] theorem set_app {M G : Hm} {i : Nat} {o : MO} : (M ++ G).set (M.length + i) o = M ++ G.set i o := by
  rw [List.set_append_right _ _ (Nat.le_add_right _ _), Nat.add_sub_cancel_left]
@[simp] theorem set_app0 {M G : Hm} {o : MO} : (M ++ G).set M.length o = M ++ G.set 0 o := set_app (i := 0)
theorem set_old {M G : Hm} {k : Nat} {o u : MO} (h : M[k]? = some u) : (M ++ G).set k o = M.set k o ++ G := List.set_append_left _ _ (List.getElem?_eq_some_iff.mp h).1
/-- which kind stands there -/
def rdLD (M : Hm) (k : Nat) (F : List MV → Prop) (F2 : List (MV × MV) → Prop) : Prop := match M[k]? with | some (.lst l) => F l | some (.dic l) => F2 l | _ => False
theorem rdLD_l {M : Hm} {k : Nat} {l : List MV} (h : M[k]? = some (.lst l)) (F : List MV → Prop) (F2 : List (MV × MV) → Prop) : rdLD M k F F2 = F l := by
  unfold rdLD
  rw [h]
theorem rdLD_d {M : Hm} {k : Nat} {l : List (MV × MV)} (h : M[k]? = some (.dic l)) (F : List MV → Prop) (F2 : List (MV × MV) → Prop) : rdLD M k F F2 = F2 l := by
  unfold rdLD
  rw [h]
def rdGb : Hm → Nat → (List MV → Prop) → (List (MV × MV) → Prop) → Prop
  | .lst l :: _, 0, F, _ => F l
  | .dic l :: _, 0, _, F => F l
  | _ :: G, n + 1, F, F2 => rdGb G n F F2
  | _, _, _, _ => False
@[simp ↓] theorem rdGb_0l {l : List MV} {G : Hm} {F : List MV → Prop} {F2 : List (MV × MV) → Prop} : rdGb (.lst l :: G) 0 F F2 = F l := nr rfl
@[simp ↓] theorem rdGb_0d {l : List (MV × MV)} {G : Hm} {F : List MV → Prop} {F2 : List (MV × MV) → Prop} : rdGb (.dic l :: G) 0 F F2 = F2 l := nr rfl
@[simp ↓] theorem rdGb_s {o : MO} {G : Hm} {n : Nat} {F : List MV → Prop} {F2 : List (MV × MV) → Prop} : rdGb (o :: G) (n + 1) F F2 = rdGb G n F F2 := by cases o <;> rfl
theorem rdGb_eq {F : List MV → Prop} {F2 : List (MV × MV) → Prop} : ∀ (G : Hm) (i : Nat), rdGb G i F F2 = (match G[i]? with | some (.lst l) => F l | some (.dic l) => F2 l | _ => False)
  | [], i => by cases i <;> rfl
  | .lst l :: G, 0 => rfl
  | .dic l :: G, 0 => rfl
  | .ins c l :: G, 0 => rfl
  | .lst l :: G, n + 1 => rdGb_eq G n
  | .dic l :: G, n + 1 => rdGb_eq G n
  | .ins c l :: G, n + 1 => rdGb_eq G n
@[simp ↓] theorem rdLD_app {M G : Hm} {i : Nat} {F : List MV → Prop} {F2 : List (MV × MV) → Prop} : rdLD (M ++ G) (M.length + i) F F2 = rdGb G i F F2 := by
  unfold rdLD
  rw [get_app, rdGb_eq]
@[simp ↓] theorem rdLD_app0 {M G : Hm} {F : List MV → Prop} {F2 : List (MV × MV) → Prop} : rdLD (M ++ G) M.length F F2 = rdGb G 0 F F2 := rdLD_app (i := 0)
theorem rdL_set {M : Hm} {k : Nat} {u : MO} (h : M[k]? = some u) (l : List MV) (F : List MV → Prop) : rdL (M.set k (.lst l)) k F = F l :=
  rdL_of (by rw [List.getElem?_set_self (List.getElem?_eq_some_iff.mp h).1]) F
theorem rdL_ne {M : Hm} {k a : Nat} {o : MO} (h : a ≠ k) (F : List MV → Prop) : rdL (M.set a o) k F = rdL M k F := by
  unfold rdL
  rw [List.getElem?_set_ne h]
def rdI {α : Type} (l : List α) (i : Int) (F : α → Prop) : Prop := rdO (L2.atI l i) F
def rdN {α : Type} : List α → Nat → (α → Prop) → Prop
  | x :: _, 0, F => F x
  | _ :: l, n + 1, F => rdN l n F
  | [], _, _ => False
@[simp ↓] theorem rdN_0 {α : Type} {x : α} {l : List α} {F : α → Prop} : rdN (x :: l) 0 F = F x := nr rfl
@[simp ↓] theorem rdN_s {α : Type} {x : α} {l : List α} {n : Nat} {F : α → Prop} : rdN (x :: l) (n + 1) F = rdN l n F := nr rfl
theorem rdN_eq {α : Type} {F : α → Prop} : ∀ (l : List α) (i : Nat), rdN l i F = (match l[i]? with | some d => F d | none => False)
  | [], i => by cases i <;> rfl
  | x :: l, 0 => rfl
  | x :: l, n + 1 => rdN_eq l n
theorem rdI_of {α : Type} {l : List α} {i : Int} {d : α} (h : L2.atI l i = some d) (F : α → Prop) : rdI l i F = F d := by
  unfold rdI
  rw [h]
  rfl
def rdX (n : Nat) (i : Int) (F : Nat → Prop) : Prop := rdO (L2.ixN n i) F
def rdT (M : Hm) (x : MV) (F : Bool → Prop) : Prop := match truth M x with | some k => F k | none => False
section
variable {M : Hm} {F : Bool → Prop}
@[simp ↓] theorem rdT_non : rdT M .non F = F false := nr rfl
@[simp ↓] theorem rdT_bl {b : Bool} : rdT M (.bl b) F = F b := nr rfl
@[simp ↓] theorem rdT_int {i : Int} : rdT M (.int i) F = F (i != 0) := nr rfl
@[simp ↓] theorem rdT_str {s : Tx} : rdT M (.str s) F = (s.length ≤ SL ∧ F (!s.isEmpty)) := by
  show (match (if s.length ≤ SL then some (!s.isEmpty) else none) with | some k => F k | none => False) = _
  by_cases h : s.length ≤ SL
  · rw [if_pos h]; simp only [h, true_and]
  · rw [if_neg h]; simp only [h, false_and]
@[simp ↓] theorem rdT_tup {l : List MV} : rdT M (.tup l) F = F (!l.isEmpty) := nr rfl
@[simp ↓] theorem rdT_rol {l : List MV} : rdT M (.rol l) F = F (!l.isEmpty) := nr rfl
theorem rdT_lst {k : Nat} {l : List MV} (h : M[k]? = some (.lst l)) : rdT M (.ref k) F = F (!l.isEmpty) := by
  unfold rdT truth
  simp [h]
end
def rdTy (M : Hm) (ty : Ty) (x : MV) (P : Prop) : Prop := if isTy M ty x then P else False
@[simp ↓] theorem rdTy_str {M : Hm} {s : Tx} {P : Prop} : rdTy M .str (.str s) P = P := if_pos rfl
@[simp ↓] theorem rdTy_list {M : Hm} {k : Nat} {P : Prop} : rdTy M .list (.ref k) P = rdL M k fun _ => P := by
  unfold rdTy rdL
  show (if (match M[k]? with | some (.lst _) => true | _ => false) = true then P else False) = _
  cases M[k]? with
  | none => rfl
  | some o => cases o <;> rfl
theorem set_get {M : Hm} {a : Nat} {u : MO} (h : M[a]? = some u) (o : MO) : (M.set a o)[a]? = some o := by
  rw [List.getElem?_set_self (List.getElem?_eq_some_iff.mp h).1]
theorem atI_nat {α : Type} (l : List α) (i : Nat) : L2.atI l (i : Int) = l[i]? := by
  unfold L2.atI L2.ixN
  rw [if_pos (by omega)]
  by_cases h : i < l.length
  · rw [if_pos (by omega)]
    rfl
  · rw [if_neg (by omega)]
    show none = _
    rw [List.getElem?_eq_none (by omega)]
theorem atI_lit {α : Type} (l : List α) (i : Nat) : L2.atI l (@OfNat.ofNat Int i instOfNat) = l[i]? := atI_nat l i
theorem atI_neg1 {α : Type} (l : List α) : L2.atI l (-1) = l[l.length - 1]? := by
  unfold L2.atI L2.ixN
  rw [if_neg (by omega)]
  by_cases h : l = []
  · subst h
    rfl
  · have hp : 0 < l.length := List.length_pos_iff.mpr h
    rw [if_pos (by omega)]
    show l[((-1 : Int) + l.length).toNat]? = _
    congr 1
    omega
theorem ixN_nat {n i : Nat} : L2.ixN n (i : Int) = if i < n then some i else none := by
  unfold L2.ixN
  rw [if_pos (by omega)]
  by_cases h : i < n
  · rw [if_pos (by omega), if_pos h, Int.toNat_natCast]
  · rw [if_neg (by omega), if_neg h]
theorem ixN_lit {n i : Nat} : L2.ixN n (@OfNat.ofNat Int i instOfNat) = if i < n then some i else none := ixN_nat
@[simp ↓] theorem rdI_lit {α : Type} {l : List α} {i : Nat} {F : α → Prop} : rdI l (no_index (@OfNat.ofNat Int i instOfNat)) F = rdN l i F := by
  unfold rdI rdO
  rw [atI_lit, rdN_eq]
@[simp ↓] theorem rdI_neg1 {α : Type} {l : List α} {F : α → Prop} : rdI l (-1) F = rdO l[l.length - 1]? F := by
  unfold rdI
  rw [atI_neg1]
theorem rdI_nat {α : Type} {l : List α} {i : Nat} {F : α → Prop} : rdI l (i : Int) F = rdO l[i]? F := by
  unfold rdI
  rw [atI_nat]
@[simp ↓] theorem rdX_lit {n i : Nat} {F : Nat → Prop} : rdX n (no_index (@OfNat.ofNat Int i instOfNat)) F = (i < n ∧ F i) := by
  unfold rdX rdO
  rw [ixN_lit]
  by_cases h : i < n
  · rw [if_pos h]; simp only [h, true_and]
  · rw [if_neg h]; simp only [h, false_and]
/-- a choice that is not to be seen through -/
structure ifB (k : Bool) (A B : Prop) : Prop where
  t : k = true → A
  f : k = false → B
theorem ifB_eq {k : Bool} {A B : Prop} : ifB k A B = if k then A else B := by
  cases k
  · exact propext ⟨fun h => h.f rfl, fun h => ⟨fun z => (Bool.noConfusion z), fun _ => h⟩⟩
  · exact propext ⟨fun h => h.t rfl, fun h => ⟨fun _ => h, fun z => (Bool.noConfusion z)⟩⟩
@[simp ↓] theorem ifB_true {k : Bool} {A B : Prop} (h : k = true) : ifB k A B = A := by rw [ifB_eq, h]; rfl
@[simp ↓] theorem ifB_false {k : Bool} {A B : Prop} (h : k = false) : ifB k A B = B := by rw [ifB_eq, h]; rfl
theorem ifB_p {c : Prop} [Decidable c] {A B : Prop} (h1 : c → A) (h2 : ¬ c → B) : ifB (decide c) A B := ⟨fun h => h1 (of_decide_eq_true h), fun h => h2 (of_decide_eq_false h)⟩
theorem ite_and {c : Prop} [Decidable c] {A : Prop} : (if c then A else False) = (c ∧ A) := by
  by_cases h : c
  · rw [if_pos h]; simp only [h, true_and]
  · rw [if_neg h]; simp only [h, false_and]
section
variable {Q : MV → Hm → Prop} {Qb : Bool → Hm → Prop} {Ql : List MV → Hm → Prop} {E : MX → Hm → Prop} {M : Hm} {env : Env} {a b : Fe} {t : Fa} {c d : Ft}
@[simp] theorem flatM_str {s : Tx} : flatM (.str s) = true := rfl
@[simp] theorem flatM_int {i : Int} : flatM (.int i) = true := rfl
@[simp] theorem flatM_bl {b : Bool} : flatM (.bl b) = true := rfl
@[simp] theorem flatM_non : flatM .non = true := rfl
@[simp] theorem eqF_ss {a b : Tx} : eqF (.str a) (.str b) = decide (a = b) := rfl
@[simp] theorem eqF_ii {a b : Int} : eqF (.int a) (.int b) = decide (a = b) := by
  show (a == b) = _
  by_cases h : a = b
  · simp [h]
  · simp [h]
@[simp] theorem eqF_si {a : Tx} {b : Int} : eqF (.str a) (.int b) = false := rfl
@[simp] theorem eqF_is {a : Tx} {b : Int} : eqF (.int b) (.str a) = false := rfl
theorem rdO_if {c : Bool} {b : Bool} {F : Bool → Prop} : rdO (if c = true then some b else none) F = (c = true ∧ F b) := by
  cases c
  · simp
  · simp
end

section
variable {Q : Env → Hm → Prop} {E : MX → Hm → Prop} {M : Hm} {env : Env}
section
variable {Q : MV → Hm → Prop}
end
end

section
variable {Q : O → Env → Hm → Prop} {E : MX → Env → Hm → Prop} {M : Hm} {env : Env} {a b : Fs} {e : Fe} {c : Ft}
end
section
variable {Q : Ni × Nat → Hm → Prop} {E : MX → Hm → Prop} {M : Hm} {env : Env} {a : Fe} {t : Fa}
def rdIt (M : Hm) (x : MV) (F : Ni × Nat → Prop) : Prop := match x with
  | .ref i => rdL M i fun l => F (nL i, l.length + 1)
  | .rol l => F (nT l, l.length + 1)
  | .tup l => F (nT l, l.length + 1)
  | .str s => F (nT (s.map fun c => .str [c]), s.length + 1)
  | _ => False
@[simp ↓] theorem rdIt_ref {i : Nat} {F : Ni × Nat → Prop} : rdIt M (.ref i) F = rdL M i fun l => F (nL i, l.length + 1) := nr rfl
@[simp ↓] theorem rdIt_rol {l : List MV} {F : Ni × Nat → Prop} : rdIt M (.rol l) F = F (nT l, l.length + 1) := nr rfl
@[simp ↓] theorem rdIt_tup {l : List MV} {F : Ni × Nat → Prop} : rdIt M (.tup l) F = F (nT l, l.length + 1) := nr rfl
@[simp ↓] theorem rdIt_str {s : Tx} {F : Ni × Nat → Prop} : rdIt M (.str s) F = F (nT (s.map fun c => .str [c]), s.length + 1) := nr rfl
end
section
variable {Q : MV → Hm → Prop} {E : MX → Hm → Prop} {M : Hm} {env : Env} {e : Fe} {c : Ft} {g : Ftg} {it : Fi} {vs : List Nat}
end
theorem w_run_mono {tab : Nat → Option Df} : True := trivial
/-- what stood stands, but at a -/
def But (a : Nat) (M M' : Hm) : Prop := ∀ i o, i ≠ a → M[i]? = some o → M'[i]? = some o
def Pre (M M' : Hm) : Prop := ∀ (i : Nat) o, M[i]? = some o → M'[i]? = some o
theorem Pre.rfl {M : Hm} : Pre M M := fun _ _ h => h
theorem Pre.trans {M M1 M2 : Hm} (h : Pre M M1) (h2 : Pre M1 M2) : Pre M M2 := fun i o q => h2 i o (h i o q)
theorem Pre.app {M l : Hm} : Pre M (M ++ l) := fun i o h => by
  rw [List.getElem?_append_left (List.getElem?_eq_some_iff.mp h).1]
  exact h
theorem Pre.but {a : Nat} {M M' : Hm} (h : Pre M M') : But a M M' := fun i o _ q => h i o q
theorem But.rfl {a : Nat} {M : Hm} : But a M M := fun _ _ _ h => h
theorem But.trans {a : Nat} {M M1 M2 : Hm} (h : But a M M1) (h2 : But a M1 M2) : But a M M2 := fun i o n q => h2 i o n (h i o n q)
theorem But.set {a : Nat} {M : Hm} {o : MO} : But a M (M.set a o) := fun i u n h => by
  rw [List.getElem?_set_ne (Ne.symm n)]
  exact h
theorem Pre.len {M M' : Hm} (h : Pre M M') : M.length ≤ M'.length := by
  rcases Nat.lt_or_ge M'.length M.length with z | z
  · have e := h M'.length M[M'.length] (List.getElem?_eq_getElem z)
    exact absurd (List.getElem?_eq_some_iff.mp e).1 (Nat.lt_irrefl _)
  · exact z
@[simp] theorem get_last {M : Hm} {o : MO} : (M ++ [o])[M.length]? = some o := by simp
@[simp] theorem set_last {M : Hm} {o u : MO} : (M ++ [o]).set M.length u = M ++ [u] := by
  rw [List.set_append_right _ _ (Nat.le_refl _), Nat.sub_self]
  rfl
theorem in62_nat {n : Nat} (h : n < 4611686018427387904) : in62 (n : Int) = true := by
  unfold in62
  rw [Int.natAbs_natCast]
  exact decide_eq_true h

@[simp] theorem cMod_eq {i j : Int} : cMod i j = decide (0 < j) := rfl
theorem cDiv_of {j : Int} (h : cDiv 0 j = true) (i : Int) : cDiv i j = true := h
theorem cMul_r {i j : Int} (h : j.natAbs < 18446744073709551616) : cMul i j = true := by
  unfold cMul
  simp [h]
theorem cMul_l {i j : Int} (h : i.natAbs < 18446744073709551616) : cMul i j = true := by
  unfold cMul
  simp [h]
theorem ix_mod {ns : List Int} {p : Int} (h : 0 < ns.length) : ∃ c, L2.atI (ns.map MV.int) (p % (ns.length : Int)) = some (.int c) := by
  have h1 : 0 ≤ p % (ns.length : Int) := Int.emod_nonneg _ (by omega)
  have h2 : p % (ns.length : Int) < ns.length := Int.emod_lt_of_pos _ (by omega)
  obtain ⟨k, hk⟩ : ∃ k : Nat, p % (ns.length : Int) = k := ⟨_, (Int.toNat_of_nonneg h1).symm⟩
  rw [hk] at h2 ⊢
  rw [atI_nat, List.getElem?_map, List.getElem?_eq_getElem (by omega)]
  exact ⟨_, rfl⟩
namespace D
section
variable {α β : Type}
def wp (r : R α) (Q : α → Hm → Prop) (E : MX → Hm → Prop) : Prop := match r with
  | .ok a M => Q a M
  | .exc x M => E x M
  | .bad => False
def wpS (r : RS) (Q : O → Env → Hm → Prop) (E : MX → Env → Hm → Prop) : Prop := match r with
  | .ok o env M => Q o env M
  | .exc x env M => E x env M
  | .bad => False
theorem wp_mono {r : R α} {Q Q' : α → Hm → Prop} {E E' : MX → Hm → Prop} (h : wp r Q E) (hq : ∀ a M, Q a M → Q' a M) (he : ∀ x M, E x M → E' x M) : wp r Q' E' := by
  cases r with
  | ok a M => exact hq _ _ h
  | exc x M => exact he _ _ h
  | bad => exact h
theorem wpS_mono {r : RS} {Q Q' : O → Env → Hm → Prop} {E E' : MX → Env → Hm → Prop} (h : wpS r Q E) (hq : ∀ o e M, Q o e M → Q' o e M) (he : ∀ x e M, E x e M → E' x e M) : wpS r Q' E' := by
  cases r with
  | ok a e M => exact hq _ _ _ h
  | exc x e M => exact he _ _ _ h
  | bad => exact h
theorem wp_ok_of {r : R α} {Q : α → Hm → Prop} (h : wp r Q fun _ _ => False) : ∃ a M, r = .ok a M ∧ Q a M := by
  cases r with
  | ok a M => exact ⟨a, M, rfl, h⟩
  | exc x M => exact h.elim
  | bad => exact h.elim
variable {Q : α → Hm → Prop} {Qb : β → Hm → Prop} {E : MX → Hm → Prop} {M : Hm} {env : Env}
@[simp ↓] theorem wp_ok {a : α} : wp (.ok a M) Q E = Q a M := nr rfl
@[simp ↓] theorem wp_exc {x : MX} : wp (.exc x M) Q E = E x M := nr rfl
@[simp ↓] theorem wp_bad : wp .bad Q E = False := nr rfl
@[simp ↓] theorem wp_bind {r : R α} {f : α → Hm → R β} : wp (r.bind f) Qb E = wp r (fun a M => wp (f a M) Qb E) E := by cases r <;> rfl
@[simp ↓] theorem wp_bindN {r : R α} {f : α → Hm → R β} : wp (r.bindN f) Qb E = wp r (fun a M => wp (f a M) Qb E) (fun _ _ => False) := by cases r <;> rfl
@[simp ↓] theorem wp_ite {c : Prop} [Decidable c] {a b : R α} : wp (if c then a else b) Q E = if c then wp a Q E else wp b Q E := by split <;> rfl
end
/-! ### readers: one step at the head, the rest unseen -/
/-! dicts -/
section
variable {M : Hm} {F : Bool → Prop}
end
section
variable {Q : MV → Hm → Prop} {Qb : Bool → Hm → Prop} {Ql : List MV → Hm → Prop} {E : MX → Hm → Prop} {M : Hm} {env : Env} {a b : Fe} {t : Fa} {c d : Ft}
@[simp ↓] theorem w_var {i : Nat} : wp (eVar i env M) Q E = rdE env i (fun d => Q d M) := by
  rw [rdE_eq]
  unfold eVar
  rcases h : env[i]? with _ | _ | x
  · rfl
  · rfl
  · rfl
@[simp ↓] theorem w_c {d : MV} : wp (eC d env M) Q E = Q d M := nr rfl
@[simp ↓] theorem w_op {f : MV → MV → Hm → R MV} : wp (eOp f a b env M) Q E = wp (a env M) (fun x M1 => wp (b env M1) (fun y M2 => wp (f x y M2) Q E) E) E := by unfold eOp; simp
@[simp ↓] theorem w_un {f : MV → Hm → R MV} : wp (eUn f a env M) Q E = wp (a env M) (fun x M1 => wp (f x M1) Q E) E := by unfold eUn; simp
@[simp ↓] theorem w_aNil : wp (aNil env M) Ql E = Ql [] M := nr rfl
@[simp ↓] theorem w_aCons : wp (aCons a t env M) Ql E = wp (a env M) (fun x M1 => wp (t env M1) (fun xs M2 => Ql (x :: xs) M2) E) E := by unfold aCons; simp
@[simp ↓] theorem w_tup : wp (eTup t env M) Q E = wp (t env M) (fun xs M1 => if xs.length ≤ SL then Q (.tup xs) M1 else False) E := by unfold eTup; simp
@[simp ↓] theorem w_lst : wp (eLst t env M) Q E = wp (t env M) (fun xs M1 => if xs.length ≤ SL then Q (.ref M1.length) (M1 ++ [.lst xs]) else False) E := by unfold eLst; simp
@[simp ↓] theorem w_fn {f : List MV → Hm → R MV} : wp (eFn f t env M) Q E = wp (t env M) (fun xs M1 => wp (f xs M1) Q E) E := by unfold eFn; simp
@[simp ↓] theorem w_call {G : Ga} {f : Nat} : wp (eCall G f t env M) Q E = wp (t env M) (fun xs M1 => wp (G f xs M1) Q E) E := by unfold eCall eFn; simp
@[simp ↓] theorem w_met {ty : Ty} {f : MV → List MV → Hm → R MV} : wp (eMet ty f a t env M) Q E = wp (a env M) (fun x M1 => rdTy M1 ty x (wp (t env M1) (fun xs M2 => wp (f x xs M2) Q E) E)) E := by unfold eMet rdTy; simp
@[simp ↓] theorem w_if : wp (eIf c a b env M) Q E = wp (c env M) (fun k M1 => if k then wp (a env M1) Q E else wp (b env M1) Q E) E := by unfold eIf; simp
theorem w_andB {x : MV} {p : R MV} : wp (match x with | .bl true => p | .bl false => .ok (.bl false) M | _ => .bad) Q E = (match x with | .bl k => if k then wp p Q E else Q (.bl false) M | _ => False) := by
  cases x with
  | bl k => cases k <;> rfl
  | _ => rfl
@[simp ↓] theorem w_and : wp (eAnd a b env M) Q E = wp (a env M) (fun x M1 => match x with | .bl k => if k then wp (b env M1) Q E else Q (.bl false) M1 | _ => False) E := by
  unfold eAnd
  rw [wp_bind]
  congr 1
  funext x M1
  exact w_andB
theorem w_orB {x : MV} {p : R MV} : wp (match x with | .bl true => .ok (.bl true) M | .bl false => p | _ => .bad) Q E = (match x with | .bl k => if k then Q (.bl true) M else wp p Q E | _ => False) := by
  cases x with
  | bl k => cases k <;> rfl
  | _ => rfl
@[simp ↓] theorem w_or : wp (eOr a b env M) Q E = wp (a env M) (fun x M1 => match x with | .bl k => if k then Q (.bl true) M1 else wp (b env M1) Q E | _ => False) E := by
  unfold eOr
  rw [wp_bind]
  congr 1
  funext x M1
  exact w_orB
@[simp ↓] theorem w_t : wp (eT c env M) Q E = wp (c env M) (fun k M1 => Q (.bl k) M1) E := by unfold eT; simp
theorem w_vB {o : Option Bool} : wp (match o with | some k => .ok k M | none => .bad) Qb E = (match o with | some k => Qb k M | none => False) := by cases o <;> rfl
@[simp ↓] theorem w_v : wp (cV a env M) Qb E = wp (a env M) (fun x M1 => rdT M1 x fun k => Qb k M1) E := by
  unfold cV
  rw [wp_bind]
  congr 1
  funext x M1
  exact w_vB
theorem w_bB {x : MV} : wp (match x with | .bl k => .ok k M | _ => .bad) Qb E = (match x with | .bl k => Qb k M | _ => False) := by cases x <;> rfl
@[simp ↓] theorem w_b : wp (cB a env M) Qb E = wp (a env M) (fun x M1 => match x with | .bl k => Qb k M1 | _ => False) E := by
  unfold cB
  rw [wp_bind]
  congr 1
  funext x M1
  exact w_bB
@[simp ↓] theorem w_cAnd : wp (cAnd c d env M) Qb E = wp (c env M) (fun k M1 => if k then wp (d env M1) Qb E else Qb false M1) E := by unfold cAnd; simp
@[simp ↓] theorem w_cOr : wp (cOr c d env M) Qb E = wp (c env M) (fun k M1 => if k then Qb true M1 else wp (d env M1) Qb E) E := by unfold cOr; simp
@[simp ↓] theorem w_cNot : wp (cNot c env M) Qb E = wp (c env M) (fun k M1 => Qb (!k) M1) E := by unfold cNot; simp
@[simp ↓] theorem w_cYes : wp (cYes env M) Qb E = Qb true M := nr rfl

/-! operations -/
@[simp ↓] theorem w_addI {i j : Int} : wp (fAdd (.int i) (.int j) M) Q E = Q (.int (i + j)) M := nr rfl
@[simp ↓] theorem w_addS {s t : Tx} : wp (fAdd (.str s) (.str t) M) Q E = if s.length + t.length ≤ SL then Q (.str (s ++ t)) M else False := by unfold fAdd; simp
@[simp ↓] theorem w_addT {s t : List MV} : wp (fAdd (.tup s) (.tup t) M) Q E = if s.length + t.length ≤ SL then Q (.tup (s ++ t)) M else False := by unfold fAdd; simp
theorem w_addL {i j : Nat} {s t : List MV} (hi : M[i]? = some (.lst s)) (hj : M[j]? = some (.lst t)) : wp (fAdd (.ref i) (.ref j) M) Q E = if s.length + t.length ≤ SL then Q (.ref M.length) (M ++ [.lst (s ++ t)]) else False := by
  unfold fAdd
  simp [hi, hj]
@[simp ↓] theorem w_iaddI {i j : Int} : wp (fIAdd (.int i) (.int j) M) Q E = Q (.int (i + j)) M := nr rfl
@[simp ↓] theorem w_iaddS {s t : Tx} : wp (fIAdd (.str s) (.str t) M) Q E = if s.length + t.length ≤ SL then Q (.str (s ++ t)) M else False := by unfold fIAdd; simp
@[simp ↓] theorem w_subI {i j : Int} : wp (fSub (.int i) (.int j) M) Q E = Q (.int (i - j)) M := nr rfl
@[simp ↓] theorem w_mulI {i j : Int} : wp (fMul (.int i) (.int j) M) Q E = if cMul i j then Q (.int (i * j)) M else False := by unfold fMul fInt2C; simp
@[simp ↓] theorem w_divI {i j : Int} : wp (fDiv (.int i) (.int j) M) Q E = if cDiv i j then Q (.int (i / j)) M else False := by unfold fDiv fInt2C; simp
@[simp ↓] theorem w_modI {i j : Int} : wp (fMod (.int i) (.int j) M) Q E = if cMod i j then Q (.int (i % j)) M else False := by unfold fMod fInt2C; simp
@[simp ↓] theorem w_powI {i j : Int} : wp (fPow (.int i) (.int j) M) Q E = if cPow i j then Q (.int (i ^ j.toNat)) M else False := by unfold fPow fInt2C; simp
@[simp ↓] theorem w_negI {i : Int} : wp (fNeg (.int i) M) Q E = Q (.int (-i)) M := nr rfl
@[simp ↓] theorem w_ltI {i j : Int} : wp (fLt (.int i) (.int j) M) Q E = Q (.bl (decide (i < j))) M := nr rfl
@[simp ↓] theorem w_leI {i j : Int} : wp (fLe (.int i) (.int j) M) Q E = Q (.bl (decide (i ≤ j))) M := nr rfl
@[simp ↓] theorem w_gtI {i j : Int} : wp (fGt (.int i) (.int j) M) Q E = Q (.bl (decide (j < i))) M := nr rfl
@[simp ↓] theorem w_geI {i j : Int} : wp (fGe (.int i) (.int j) M) Q E = Q (.bl (decide (j ≤ i))) M := nr rfl
@[simp ↓] theorem w_ltS {i j : Tx} : wp (fLt (.str i) (.str j) M) Q E = Q (.bl (decide (i < j))) M := nr rfl
@[simp ↓] theorem w_gtS {i j : Tx} : wp (fGt (.str i) (.str j) M) Q E = Q (.bl (decide (j < i))) M := nr rfl
@[simp ↓] theorem w_eqI {i j : Int} {g : Bool → Bool} : wp (fEqG g (.int i) (.int j) M) Q E = Q (.bl (g (decide (i = j)))) M := nr rfl
@[simp ↓] theorem w_eqS {i j : Tx} {g : Bool → Bool} : wp (fEqG g (.str i) (.str j) M) Q E = Q (.bl (g (decide (i = j)))) M := nr rfl
@[simp ↓] theorem w_eqB {i j : Bool} {g : Bool → Bool} : wp (fEqG g (.bl i) (.bl j) M) Q E = Q (.bl (g (decide (i = j)))) M := nr rfl
@[simp ↓] theorem w_eqIS {i : Int} {j : Tx} {g : Bool → Bool} : wp (fEqG g (.int i) (.str j) M) Q E = Q (.bl (g false)) M := nr rfl
@[simp ↓] theorem w_eqSI {i : Int} {j : Tx} {g : Bool → Bool} : wp (fEqG g (.str j) (.int i) M) Q E = Q (.bl (g false)) M := nr rfl
theorem w_eq {x y : MV} {g : Bool → Bool} {b : Bool} (h : eqM M x y = some b) : wp (fEqG g x y M) Q E = Q (.bl (g b)) M := by
  unfold fEqG
  rw [h]
  rfl
@[simp ↓] theorem w_inS {c : Nat} {t : Tx} {g : Bool → Bool} : wp (fInG g (.str [c]) (.str t) M) Q E = Q (.bl (g (decide (c ∈ t)))) M := nr rfl
theorem w_mO {o : Option MV} : wp (match o with | some d => .ok d M | none => .bad) Q E = rdO o (fun d => Q d M) := by cases o <;> rfl
theorem w_mS {o : Option Nat} : wp (match o with | some c => .ok (.str [c]) M | none => .bad) Q E = rdO o (fun c => Q (.str [c]) M) := by cases o <;> rfl
@[simp ↓] theorem w_ixT {l : List MV} {i : Int} : wp (fIx (.tup l) (.int i) M) Q E = rdI l i (fun d => Q d M) := w_mO
@[simp ↓] theorem w_ixR {l : List MV} {i : Int} : wp (fIx (.rol l) (.int i) M) Q E = rdI l i (fun d => Q d M) := w_mO
@[simp ↓] theorem w_ixS {s : Tx} {i : Int} : wp (fIx (.str s) (.int i) M) Q E = if s.length ≤ SL then rdI s i (fun c => Q (.str [c]) M) else False := by
  show wp (if s.length ≤ SL then (match L2.atI s i with
    | some c => .ok (.str [c]) M
    | none => .bad) else .bad) Q E = _
  rw [wp_ite, w_mS, wp_bad]
  rfl
@[simp ↓] theorem w_ixL {k : Nat} {i : Int} : wp (fIx (.ref k) (.int i) M) Q E = rdL M k (fun l => rdI l i (fun d => Q d M)) := by
  show wp (match M[k]? with
    | some (.lst l) => (match L2.atI l i with
      | some d => .ok d M
      | none => .bad)
    | _ => .bad) Q E = _
  unfold rdL
  cases M[k]? with
  | none => rfl
  | some o =>
    cases o with
    | lst l => exact w_mO
    | _ => rfl
@[simp ↓] theorem w_sl {f : MV → Option Int → Option Int → Hm → R MV} {lo hi : Fo} : wp (eSl f a lo hi env M) Q E = wp (a env M) (fun x M1 => wp (lo env M1) (fun l M2 => wp (hi env M2) (fun u M3 => wp (f x l u M3) Q E) E) E) E := by unfold eSl; simp
@[simp ↓] theorem w_oN {Qo : Option Int → Hm → Prop} : wp (oNone env M) Qo E = Qo none M := nr rfl
theorem w_oB {x : MV} {Qo : Option Int → Hm → Prop} : wp (match x with | .int i => .ok (some i) M | _ => .bad) Qo E = (match x with | .int i => Qo (some i) M | _ => False) := by cases x <;> rfl
@[simp ↓] theorem w_oS {Qo : Option Int → Hm → Prop} : wp (oSome a env M) Qo E = wp (a env M) (fun x M1 => match x with | .int i => Qo (some i) M1 | _ => False) E := by
  unfold oSome
  rw [wp_bind]
  congr 1
  funext x M1
  exact w_oB
@[simp ↓] theorem w_slT {l : List MV} {lo hi : Option Int} : wp (fSl (.tup l) lo hi M) Q E = Q (.tup (cut l lo hi)) M := nr rfl
@[simp ↓] theorem w_slS {s : Tx} {lo hi : Option Int} : wp (fSl (.str s) lo hi M) Q E = if s.length ≤ SL then Q (.str (cut s lo hi)) M else False := by unfold fSl; simp
@[simp ↓] theorem w_lenS {s : Tx} : wp (fLen [.str s] M) Q E = if s.length ≤ SL then Q (.int s.length) M else False := by unfold fLen; simp
@[simp ↓] theorem w_lenT {s : List MV} : wp (fLen [.tup s] M) Q E = Q (.int s.length) M := nr rfl
@[simp ↓] theorem w_lenR {s : List MV} : wp (fLen [.rol s] M) Q E = Q (.int s.length) M := nr rfl
@[simp ↓] theorem w_lenL {k : Nat} : wp (fLen [.ref k] M) Q E = rdL M k (fun l => Q (.int l.length) M) := by
  show wp (match M[k]? with
    | some (.lst l) => .ok (.int l.length) M
    | _ => .bad) Q E = _
  unfold rdL
  cases M[k]? with
  | none => rfl
  | some o =>
    cases o with
    | lst l => rfl
    | _ => rfl
@[simp ↓] theorem w_str {i : Int} : wp (fStr [.int i] M) Q E = if i.natAbs.log2 < 1920 then Q (.str (numT i)) M else False := by unfold fStr; simp
@[simp ↓] theorem w_intI {i : Int} : wp (fIntOf [.int i] M) Q E = Q (.int i) M := nr rfl
theorem w_intB {b : Bool} : wp (fIntOf [.bl b] M) Q E = Q (.int (match b with | true => 1 | false => 0)) M := by cases b <;> rfl
@[simp ↓] theorem w_intBt : wp (fIntOf [.bl true] M) Q E = Q (.int 1) M := nr rfl
@[simp ↓] theorem w_intBf : wp (fIntOf [.bl false] M) Q E = Q (.int 0) M := nr rfl
@[simp ↓] theorem w_intS {s : Tx} : wp (fIntOf [.str s] M) Q E = if allDig s && !s.isEmpty && decide (s.length ≤ 640) then Q (.int (PySem.NumText.digitsVal s : Nat)) M else False := by
  unfold fIntOf
  simp only [wp_ite]
  rfl
@[simp ↓] theorem w_abs {i : Int} : wp (fAbs [.int i] M) Q E = Q (.int (i.natAbs : Int)) M := by
  have e : (i.natAbs : Int) = (if i < 0 then -i else i) := by split <;> omega
  rw [e]
  rfl
@[simp ↓] theorem w_ord {c : Nat} : wp (fOrd [.str [c]] M) Q E = Q (.int c) M := nr rfl
@[simp ↓] theorem w_tupT {l : List MV} : wp (fTuple [.tup l] M) Q E = Q (.tup l) M := nr rfl
@[simp ↓] theorem w_tupR {l : List MV} : wp (fTuple [.rol l] M) Q E = Q (.tup l) M := nr rfl
@[simp ↓] theorem w_tupL {k : Nat} : wp (fTuple [.ref k] M) Q E = rdL M k (fun l => Q (.tup l) M) := by
  show wp (match M[k]? with
    | some (.lst l) => .ok (.tup l) M
    | _ => .bad) Q E = _
  unfold rdL
  cases M[k]? with
  | none => rfl
  | some o =>
    cases o with
    | lst l => rfl
    | _ => rfl
@[simp ↓] theorem w_listT {l : List MV} : wp (fList [.tup l] M) Q E = Q (.ref M.length) (M ++ [.lst l]) := nr rfl
@[simp ↓] theorem w_listR {l : List MV} : wp (fList [.rol l] M) Q E = Q (.ref M.length) (M ++ [.lst l]) := nr rfl
@[simp ↓] theorem w_listL {k : Nat} : wp (fList [.ref k] M) Q E = rdL M k (fun l => Q (.ref M.length) (M ++ [.lst l])) := by
  show wp (match M[k]? with
    | some (.lst l) => .ok (.ref M.length) (M ++ [.lst l])
    | _ => .bad) Q E = _
  unfold rdL
  cases M[k]? with
  | none => rfl
  | some o =>
    cases o with
    | lst l => rfl
    | _ => rfl
@[simp ↓] theorem w_divmod {i j : Int} : wp (fDivmod [.int i, .int j] M) Q E = if cDiv i j then Q (.tup [.int (i / j), .int (i % j)]) M else False := by unfold fDivmod; simp
@[simp ↓] theorem w_append {k : Nat} {d : MV} : wp (fAppend (.ref k) [d] M) Q E = rdL M k (fun l => if l.length < SL then Q .non (M.set k (.lst (l ++ [d]))) else False) := by
  show wp (match M[k]? with
    | some (.lst l) => (if l.length < SL then .ok .non (M.set k (.lst (l ++ [d]))) else .bad)
    | _ => .bad) Q E = _
  unfold rdL
  cases M[k]? with
  | none => rfl
  | some o =>
    cases o with
    | lst l => exact wp_ite
    | _ => rfl
theorem w_mP {o : Option MV} {M' : Hm} : wp (match o with | some d => .ok d M' | none => .bad) Q E = rdO o (fun d => Q d M') := by cases o <;> rfl
@[simp ↓] theorem w_pop {k : Nat} : wp (fPop (.ref k) [] M) Q E = rdL M k (fun l => rdO l[l.length - 1]? fun d => Q d (M.set k (.lst l.dropLast))) := by
  show wp (match M[k]? with
    | some (.lst l) => (match l[l.length - 1]? with | some d => .ok d (M.set k (.lst l.dropLast)) | none => .bad)
    | _ => .bad) Q E = _
  unfold rdL
  cases M[k]? with
  | none => rfl
  | some o =>
    cases o with
    | lst l => exact w_mP
    | _ => rfl
theorem w_mJ {o : Option (List Tx)} {sep : Tx} : wp (match o with | some ss => if (ss.map (·.length)).sum + ss.length * sep.length ≤ SL then .ok (.str (joinT sep ss)) M else .bad | none => .bad) Q E = rdO o (fun ss => if (ss.map (·.length)).sum + ss.length * sep.length ≤ SL then Q (.str (joinT sep ss)) M else False) := by
  cases o with
  | none => rfl
  | some ss => exact wp_ite
@[simp ↓] theorem w_join {k : Nat} {sep : Tx} : wp (fJoin (.str sep) [.ref k] M) Q E = rdL M k (fun l => rdO (textsOf l) fun ss => if (ss.map (·.length)).sum + ss.length * sep.length ≤ SL then Q (.str (joinT sep ss)) M else False) := by
  show wp (match M[k]? with
    | some (.lst l) => (match textsOf l with | some ss => if (ss.map (·.length)).sum + ss.length * sep.length ≤ SL then .ok (.str (joinT sep ss)) M else .bad | none => .bad)
    | _ => .bad) Q E = _
  unfold rdL
  cases M[k]? with
  | none => rfl
  | some o =>
    cases o with
    | lst l => exact w_mJ
    | _ => rfl
@[simp ↓] theorem w_rev {k : Nat} : wp (fRev (.ref k) M) Q E = rdL M k (fun l => Q (.ref M.length) (M ++ [.lst l.reverse])) := by
  show wp (match M[k]? with
    | some (.lst l) => .ok (.ref M.length) (M ++ [.lst l.reverse])
    | _ => .bad) Q E = _
  unfold rdL
  cases M[k]? with
  | none => rfl
  | some o =>
    cases o with
    | lst l => rfl
    | _ => rfl
@[simp ↓] theorem w_revAT {l : List MV} : wp (fRevA (.tup l) M) Q E = Q (.tup l.reverse) M := nr rfl
@[simp ↓] theorem w_revAL {k : Nat} : wp (fRevA (.ref k) M) Q E = rdL M k (fun l => Q (.ref M.length) (M ++ [.lst l.reverse])) := by
  show wp (match M[k]? with
    | some (.lst l) => .ok (.ref M.length) (M ++ [.lst l.reverse])
    | _ => .bad) Q E = _
  unfold rdL
  cases M[k]? with
  | none => rfl
  | some o =>
    cases o with
    | lst l => rfl
    | _ => rfl
@[simp ↓] theorem w_slL {k : Nat} {lo hi : Option Int} : wp (fSl (.ref k) lo hi M) Q E = rdL M k (fun l => Q (.ref M.length) (M ++ [.lst (cut l lo hi)])) := by
  show wp (match M[k]? with
    | some (.lst l) => .ok (.ref M.length) (M ++ [.lst (cut l lo hi)])
    | _ => .bad) Q E = _
  unfold rdL
  cases M[k]? with
  | none => rfl
  | some o =>
    cases o with
    | lst l => rfl
    | _ => rfl
@[simp ↓] theorem w_listAS {s : Tx} : wp (fListA [.str s] M) Q E = if s.length ≤ SL then Q (.ref M.length) (M ++ [.lst (s.map fun c => .str [c])]) else False := by
  show wp (if s.length ≤ SL then .ok (.ref M.length) (M ++ [.lst (s.map fun c => .str [c])]) else .bad) Q E = _
  rw [wp_ite]
  rfl
@[simp ↓] theorem w_listAT {l : List MV} : wp (fListA [.tup l] M) Q E = Q (.ref M.length) (M ++ [.lst l]) := nr rfl
@[simp ↓] theorem w_listAR {l : List MV} : wp (fListA [.rol l] M) Q E = Q (.ref M.length) (M ++ [.lst l]) := nr rfl
@[simp ↓] theorem w_listAL {k : Nat} : wp (fListA [.ref k] M) Q E = rdL M k (fun l => Q (.ref M.length) (M ++ [.lst l])) := w_listL
@[simp ↓] theorem w_find3 {x y : Tx} {i : Int} : wp (fFind3 (.str x) [.str y, .int i] M) Q E = Q (.int (PySem.Txt.find3 (T x) (T y) i)) M := nr rfl
@[simp ↓] theorem w_zfill {x : Tx} {i : Int} : wp (fZfill (.str x) [.int i] M) Q E = if PySem.PadOk i && noSign x then Q (.str (List.replicate (i.toNat - x.length) 48 ++ x)) M else False := by
  unfold fZfill
  simp only [wp_ite]
  rfl
theorem w_mA {o : Option (List Bool)} {g : List Bool → Bool} : wp (match o with | some bs => .ok (.bl (g bs)) M | none => .bad) Q E = rdO o (fun bs => Q (.bl (g bs)) M) := by cases o <;> rfl
@[simp ↓] theorem w_all {k : Nat} {g : List Bool → Bool} : wp (fAllG g [.ref k] M) Q E = rdL M k (fun l => rdO (boolsOf l) fun bs => Q (.bl (g bs)) M) := by
  show wp (match M[k]? with
    | some (.lst l) => (match boolsOf l with | some bs => .ok (.bl (g bs)) M | none => .bad)
    | _ => .bad) Q E = _
  unfold rdL
  cases M[k]? with
  | none => rfl
  | some o =>
    cases o with
    | lst l => exact w_mA
    | _ => rfl
@[simp ↓] theorem w_gcR {r : R MV} : wp (gcR M r) Q E = wp r (fun d M' => gcQ M M' d Q) (fun x M' => gcE M M' x E) := by
  cases r with
  | ok d M' => show Q _ _ = gcQ M M' d Q; unfold gcQ; rfl
  | exc x M' => show E _ _ = gcE M M' x E; unfold gcE; rfl
  | bad => rfl
@[simp ↓] theorem w_gc {e : Fe} : wp (eGc e env M) Q E = wp (e env M) (fun d M' => gcQ M M' d Q) (fun x M' => gcE M M' x E) := w_gcR
@[simp ↓] theorem w_dic0 : wp (eDic0 env M) Q E = Q (.ref M.length) (M ++ [.dic []]) := nr rfl
@[simp ↓] theorem w_dic {ps : List (Fe × Fe)} : wp (eDic ps env M) Q E = wp (pPairs ps env M) (fun l M1 => Q (.ref M1.length) (M1 ++ [.dic (putAll [] l)])) (fun _ _ => False) := by unfold eDic; simp
@[simp ↓] theorem w_pNil {Qp : List (MV × MV) → Hm → Prop} : wp (pPairs [] env M) Qp E = Qp [] M := nr rfl
@[simp ↓] theorem w_pCons {Qp : List (MV × MV) → Hm → Prop} {k v : Fe} {r : List (Fe × Fe)} : wp (pPairs ((k, v) :: r) env M) Qp E = wp (k env M) (fun x M1 => wp (v env M1) (fun y M2 => wp (pPairs r env M2) (fun l M3 => if isKey x then Qp ((x, y) :: l) M3 else False) E) E) E := by
  show wp ((k env M).bind fun x M1 => (v env M1).bind fun y M2 => (pPairs r env M2).bind fun l M3 => if isKey x then .ok ((x, y) :: l) M3 else .bad) Qp E = _
  simp only [wp_bind, wp_ite, wp_ok, wp_bad]
theorem w_kdB {l : List (Tx × MV)} {x : MV} : wp (match x with | .str s => (match l.lookup s with | some d => .ok d M | none => .bad) | _ => .bad) Q E = (match x with | .str s => rdO (l.lookup s) fun d => Q d M | _ => False) := by
  cases x with
  | str s =>
    show wp (match l.lookup s with | some d => .ok d M | none => .bad) Q E = rdO (l.lookup s) fun d => Q d M
    cases l.lookup s <;> rfl
  | _ => rfl
@[simp ↓] theorem w_kd {l : List (Tx × MV)} : wp (eKd l a env M) Q E = wp (a env M) (fun x M1 => match x with | .str s => rdO (l.lookup s) fun d => Q d M1 | _ => False) E := by
  unfold eKd
  rw [wp_bind]
  congr 1
  funext x M1
  exact w_kdB
@[simp ↓] theorem w_ixAT {l : List MV} {i : Int} : wp (fIxA (.tup l) (.int i) M) Q E = rdI l i (fun d => Q d M) := w_mO
@[simp ↓] theorem w_ixAR {l : List MV} {i : Int} : wp (fIxA (.rol l) (.int i) M) Q E = rdI l i (fun d => Q d M) := w_mO
@[simp ↓] theorem w_ixAS {s : Tx} {i : Int} : wp (fIxA (.str s) (.int i) M) Q E = if s.length ≤ SL then rdI s i (fun c => Q (.str [c]) M) else False := w_ixS
@[simp ↓] theorem w_ixAL {k : Nat} {i : Int} : wp (fIxA (.ref k) (.int i) M) Q E = rdLD M k (fun l => rdI l i (fun d => Q d M)) (fun l => rdO (getD l (.int i)) fun d => Q d M) := by
  show wp (match M[k]? with
    | some (.dic l) => if isKey (.int i) then (match getD l (.int i) with
      | some d => .ok d M
      | none => .bad) else .bad
    | _ => fIx (.ref k) (.int i) M) Q E = _
  unfold rdLD
  cases h : M[k]? with
  | none => show wp (fIx (.ref k) (.int i) M) Q E = _; rw [w_ixL]; unfold rdL; rw [h]
  | some o =>
    cases o with
    | lst l => show wp (fIx (.ref k) (.int i) M) Q E = _; rw [w_ixL]; unfold rdL; rw [h]
    | dic l => exact w_mO
    | ins c l => show wp (fIx (.ref k) (.int i) M) Q E = _; rw [w_ixL]; unfold rdL; rw [h]
@[simp ↓] theorem w_ixAD {k : Nat} {s : Tx} : wp (fIxA (.ref k) (.str s) M) Q E = rdD M k (fun l => rdO (getD l (.str s)) fun d => Q d M) := by
  show wp (match M[k]? with
    | some (.dic l) => if isKey (.str s) then (match getD l (.str s) with
      | some d => .ok d M
      | none => .bad) else .bad
    | _ => fIx (.ref k) (.str s) M) Q E = _
  unfold rdD
  cases h : M[k]? with
  | none => rfl
  | some o =>
    cases o with
    | dic l => exact w_mO
    | _ => rfl
theorem w_inO {o : Option Bool} {g : Bool → Bool} : wp (match o with | some b => .ok (.bl (g b)) M | none => .bad) Q E = rdO o (fun b => Q (.bl (g b)) M) := by cases o <;> rfl
@[simp ↓] theorem w_inT {x : MV} {l : List MV} {g : Bool → Bool} : wp (fInG g x (.tup l) M) Q E = ((flatM x && l.all flatM) = true ∧ Q (.bl (g (l.any fun y => eqF y x))) M) := by
  show wp (match (if (flatM x && l.all flatM) = true then some (l.any fun y => eqF y x) else none) with | some b => .ok (.bl (g b)) M | none => .bad) Q E = _
  rw [w_inO, rdO_if]
@[simp ↓] theorem w_inAT {x : MV} {l : List MV} {g : Bool → Bool} : wp (fInGA g x (.tup l) M) Q E = ((flatM x && l.all flatM) = true ∧ Q (.bl (g (l.any fun y => eqF y x))) M) := w_inT
@[simp ↓] theorem w_inL {x : MV} {k : Nat} {g : Bool → Bool} : wp (fInG g x (.ref k) M) Q E = rdL M k (fun l => (flatM x && l.all flatM) = true ∧ Q (.bl (g (l.any fun y => eqF y x))) M) := by
  show wp (match (match M[k]? with
    | some (.lst l) => if (flatM x && l.all flatM) = true then some (l.any fun y => eqF y x) else none
    | _ => none) with | some b => .ok (.bl (g b)) M | none => .bad) Q E = _
  unfold rdL
  cases M[k]? with
  | none => rfl
  | some o =>
    cases o with
    | lst l => exact (w_inO).trans rdO_if
    | _ => rfl
@[simp ↓] theorem w_inALD {x : MV} {k : Nat} {g : Bool → Bool} : wp (fInGA g x (.ref k) M) Q E = rdLD M k (fun l => (flatM x && l.all flatM) = true ∧ Q (.bl (g (l.any fun y => eqF y x))) M) (fun l => isKey x = true ∧ Q (.bl (g (getD l x).isSome)) M) := by
  show wp (match M[k]? with
    | some (.dic l) => if isKey x then .ok (.bl (g (getD l x).isSome)) M else .bad
    | _ => fInG g x (.ref k) M) Q E = _
  unfold rdLD
  cases h : M[k]? with
  | none => show wp (fInG g x (.ref k) M) Q E = _; rw [w_inL]; unfold rdL; rw [h]
  | some o =>
    cases o with
    | lst l => show wp (fInG g x (.ref k) M) Q E = _; rw [w_inL]; unfold rdL; rw [h]
    | dic l => exact wp_ite.trans ite_and
    | ins c l => show wp (fInG g x (.ref k) M) Q E = _; rw [w_inL]; unfold rdL; rw [h]
/-- x in y, y a tuple or a list -/
theorem w_inF {x y : MV} {g : Bool → Bool} {b : Bool} (h : inM M x y = some b) : wp (fInG g x y M) Q E = Q (.bl (g b)) M := by
  unfold fInG
  rw [h]
  rfl
theorem w_inAF {x : MV} {l : List MV} {g : Bool → Bool} {b : Bool} (h : inM M x (.tup l) = some b) : wp (fInGA g x (.tup l) M) Q E = Q (.bl (g b)) M := w_inF h
@[simp ↓] theorem w_inAS {c : Nat} {t : Tx} {g : Bool → Bool} : wp (fInGA g (.str [c]) (.str t) M) Q E = Q (.bl (g (decide (c ∈ t)))) M := nr rfl
theorem w_inAD {k : Nat} {x : MV} {l : List (MV × MV)} {g : Bool → Bool} (h : M[k]? = some (.dic l)) (hk : isKey x = true) : wp (fInGA g x (.ref k) M) Q E = Q (.bl (g (getD l x).isSome)) M := by
  show wp (match M[k]? with
    | some (.dic l) => if isKey x then .ok (.bl (g (getD l x).isSome)) M else .bad
    | _ => fInG g x (.ref k) M) Q E = _
  rw [h]
  show wp (if isKey x then .ok (.bl (g (getD l x).isSome)) M else .bad) Q E = _
  rw [if_pos hk]
  rfl
theorem w_inAL {k : Nat} {x : MV} {l : List MV} {g : Bool → Bool} {b : Bool} (h : M[k]? = some (.lst l)) (hb : inM M x (.ref k) = some b) : wp (fInGA g x (.ref k) M) Q E = Q (.bl (g b)) M := by
  show wp (match M[k]? with
    | some (.dic l) => if isKey x then .ok (.bl (g (getD l x).isSome)) M else .bad
    | _ => fInG g x (.ref k) M) Q E = _
  rw [h]
  exact w_inF hb
@[simp ↓] theorem w_isB {i j : Bool} {g : Bool → Bool} : wp (fIsG g (.bl i) (.bl j) M) Q E = Q (.bl (g (decide (i = j)))) M := nr rfl
@[simp ↓] theorem w_isNN {g : Bool → Bool} : wp (fIsG g .non .non M) Q E = Q (.bl (g true)) M := nr rfl
@[simp ↓] theorem w_isBN {i : Bool} {g : Bool → Bool} : wp (fIsG g (.bl i) .non M) Q E = Q (.bl (g false)) M := nr rfl
@[simp ↓] theorem w_isIN {i : Int} {g : Bool → Bool} : wp (fIsG g (.int i) .non M) Q E = Q (.bl (g false)) M := nr rfl
@[simp ↓] theorem w_isSN {s : Tx} {g : Bool → Bool} : wp (fIsG g (.str s) .non M) Q E = Q (.bl (g false)) M := nr rfl
@[simp ↓] theorem w_isTN {l : List MV} {g : Bool → Bool} : wp (fIsG g (.tup l) .non M) Q E = Q (.bl (g false)) M := nr rfl
@[simp ↓] theorem w_isRN {k : Nat} {g : Bool → Bool} : wp (fIsG g (.ref k) .non M) Q E = Q (.bl (g false)) M := nr rfl
theorem w_chB {g : MV → MV → Hm → R MV} {cc : Fe} {y x : MV} : wp (match x with | .bl true => (cc env M).bind fun w M4 => g y w M4 | .bl false => .ok (.bl false) M | _ => .bad) Q E = (match x with | .bl k => if k then wp (cc env M) (fun w M4 => wp (g y w M4) Q E) E else Q (.bl false) M | _ => False) := by
  cases x with
  | bl k =>
    cases k with
    | false => rfl
    | true => exact wp_bind
  | _ => rfl
@[simp ↓] theorem w_chain {f g : MV → MV → Hm → R MV} {cc : Fe} : wp (eChain f g a b cc env M) Q E = wp (a env M) (fun x M1 => wp (b env M1) (fun y M2 => wp (f x y M2) (fun z M3 => match z with | .bl k => if k then wp (cc env M3) (fun w M4 => wp (g y w M4) Q E) E else Q (.bl false) M3 | _ => False) E) E) E := by
  unfold eChain
  rw [wp_bind]
  congr 1
  funext x M1
  rw [wp_bind]
  congr 1
  funext y M2
  rw [wp_bind]
  congr 1
  funext z M3
  exact w_chB
@[simp ↓] theorem w_extT {k : Nat} {t : List MV} : wp (fExtend (.ref k) [.tup t] M) Q E = rdL M k (fun s => if s.length + t.length ≤ SL then Q .non (M.set k (.lst (s ++ t))) else False) := by
  show wp (match M[k]? with
    | some (.lst s) => (if s.length + t.length ≤ SL then .ok .non (M.set k (.lst (s ++ t))) else .bad)
    | _ => .bad) Q E = _
  unfold rdL
  cases M[k]? with
  | none => rfl
  | some o =>
    cases o with
    | lst l => exact wp_ite
    | _ => rfl
theorem w_mE {s : List MV} {k j : Nat} : wp (match M[j]? with | some (.lst t) => (if s.length + t.length ≤ SL then .ok .non (M.set k (.lst (s ++ t))) else .bad) | _ => .bad) Q E = rdL M j (fun t => if s.length + t.length ≤ SL then Q .non (M.set k (.lst (s ++ t))) else False) := by
  unfold rdL
  cases M[j]? with
  | none => rfl
  | some o =>
    cases o with
    | lst l => exact wp_ite
    | _ => rfl
@[simp ↓] theorem w_extL {k j : Nat} : wp (fExtend (.ref k) [.ref j] M) Q E = rdL M k (fun s => rdL M j (fun t => if s.length + t.length ≤ SL then Q .non (M.set k (.lst (s ++ t))) else False)) := by
  have e : fExtend (.ref k) [.ref j] M = (match M[k]? with
    | some (.lst s) => (match M[j]? with | some (.lst t) => (if s.length + t.length ≤ SL then .ok .non (M.set k (.lst (s ++ t))) else .bad) | _ => .bad)
    | _ => .bad) := by
    show (match M[k]?, M[j]? with
      | some (.lst s), some (.lst t) => (if s.length + t.length ≤ SL then R.ok MV.non (M.set k (.lst (s ++ t))) else .bad)
      | _, _ => .bad) = _
    cases M[k]? with
    | none => rfl
    | some o =>
      cases o with
      | lst l =>
        cases M[j]? with
        | none => rfl
        | some o2 => cases o2 <;> rfl
      | _ => rfl
  rw [e]
  show _ = (match M[k]? with | some (.lst s) => rdL M j (fun t => if s.length + t.length ≤ SL then Q .non (M.set k (.lst (s ++ t))) else False) | _ => False)
  cases M[k]? with
  | none => rfl
  | some o =>
    cases o with
    | lst l => exact w_mE
    | _ => rfl
@[simp ↓] theorem w_insert {k : Nat} {i : Int} {y : MV} : wp (fInsert (.ref k) [.int i, y] M) Q E = rdL M k (fun s => if decide (s.length < SL) && decide (0 ≤ i) && decide (i.natAbs < 1073741824) then Q .non (M.set k (.lst (s.take i.toNat ++ [y] ++ s.drop i.toNat))) else False) := by
  show wp (match M[k]? with
    | some (.lst s) => (if decide (s.length < SL) && decide (0 ≤ i) && decide (i.natAbs < 1073741824) then .ok .non (M.set k (.lst (s.take i.toNat ++ [y] ++ s.drop i.toNat))) else .bad)
    | _ => .bad) Q E = _
  unfold rdL
  cases M[k]? with
  | none => rfl
  | some o =>
    cases o with
    | lst l => exact wp_ite
    | _ => rfl
@[simp ↓] theorem w_dict {k : Nat} : wp (fDict [.ref k] M) Q E = rdD M k (fun l => Q (.ref M.length) (M ++ [.dic l])) := by
  show wp (match M[k]? with
    | some (.dic l) => .ok (.ref M.length) (M ++ [.dic l])
    | _ => .bad) Q E = _
  unfold rdD
  cases M[k]? with
  | none => rfl
  | some o => cases o <;> rfl
theorem w_mT {o : Option (List Tx)} : wp (match o with | some ts => if ts.length < 64 then .ok (.ref M.length) (M ++ [.lst ((sortT ts).map MV.str)]) else .bad | none => .bad) Q E = rdO o (fun ts => if ts.length < 64 then Q (.ref M.length) (M ++ [.lst ((sortT ts).map MV.str)]) else False) := by
  cases o with
  | none => rfl
  | some ss => exact wp_ite
@[simp ↓] theorem w_sorted {k : Nat} : wp (fSorted [.ref k] M) Q E = rdLD M k (fun l => rdO (textsOf l) fun ts => if ts.length < 64 then Q (.ref M.length) (M ++ [.lst ((sortT ts).map MV.str)]) else False)
    (fun l => rdO (keysOf l) fun ts => if ts.length < 64 then Q (.ref M.length) (M ++ [.lst ((sortT ts).map MV.str)]) else False) := by
  show wp (match M[k]? with
    | some (.dic l) => (match keysOf l with
      | some ts => if ts.length < 64 then .ok (.ref M.length) (M ++ [.lst ((sortT ts).map MV.str)]) else .bad
      | none => .bad)
    | some (.lst l) => (match textsOf l with
      | some ts => if ts.length < 64 then .ok (.ref M.length) (M ++ [.lst ((sortT ts).map MV.str)]) else .bad
      | none => .bad)
    | _ => .bad) Q E = _
  unfold rdLD
  cases M[k]? with
  | none => rfl
  | some o =>
    cases o with
    | lst l => exact w_mT
    | dic l => exact w_mT
    | _ => rfl
theorem w_gB {cc : Fe} {y z : MV} {k : Nat} : wp (match M[k]? with
      | some (.dic l) => if isKey y then .ok ((getD l y).getD z) M else .bad
      | _ => .bad) Q E = rdD M k (fun l => if isKey y then Q ((getD l y).getD z) M else False) := by
  unfold rdD
  cases M[k]? with
  | none => rfl
  | some o =>
    cases o with
    | dic l => exact wp_ite
    | _ => rfl
theorem w_gA {cc : Fe} {x : MV} : wp (match x with
  | .ref k => (match M[k]? with
    | some (.dic _) => (b env M).bind fun y M2 => (cc env M2).bind fun z M3 => (match M3[k]? with
      | some (.dic l) => if isKey y then .ok ((getD l y).getD z) M3 else .bad
      | _ => .bad)
    | _ => .bad)
  | _ => .bad) Q E = (match x with
  | .ref k => rdD M k fun _ => wp (b env M) (fun y M2 => wp (cc env M2) (fun z M3 => rdD M3 k (fun l => if isKey y then Q ((getD l y).getD z) M3 else False)) E) E
  | _ => False) := by
  cases x with
  | ref k =>
    show wp (match M[k]? with
    | some (.dic _) => (b env M).bind fun y M2 => (cc env M2).bind fun z M3 => (match M3[k]? with
      | some (.dic l) => if isKey y then .ok ((getD l y).getD z) M3 else .bad
      | _ => .bad)
    | _ => .bad) Q E = rdD M k fun _ => wp (b env M) (fun y M2 => wp (cc env M2) (fun z M3 => rdD M3 k (fun l => if isKey y then Q ((getD l y).getD z) M3 else False)) E) E
    unfold rdD
    cases M[k]? with
    | none => rfl
    | some o =>
      cases o with
      | dic l =>
        show wp ((b env M).bind _) Q E = wp (b env M) _ E
        rw [wp_bind]
        congr 1
        funext y M2
        rw [wp_bind]
        congr 1
        funext z M3
        exact w_gB (cc := cc)
      | _ => rfl
  | _ => rfl
@[simp ↓] theorem w_get2 {cc : Fe} : wp (eGet2 a b cc env M) Q E = wp (a env M) (fun x M1 => match x with
  | .ref k => rdD M1 k fun _ => wp (b env M1) (fun y M2 => wp (cc env M2) (fun z M3 => rdD M3 k (fun l => if isKey y then Q ((getD l y).getD z) M3 else False)) E) E
  | _ => False) E := by
  unfold eGet2
  rw [wp_bind]
  congr 1
  funext x M1
  exact w_gA
theorem w_isi {x : MV} {c t : String} {k : Bool} (ht : tyN M x = some t) (hk : L2.kitB t c = some k) : wp (fIsi c [x] M) Q E = Q (.bl k) M := by
  unfold fIsi
  simp [ht, hk]
@[simp ↓] theorem w_isi_NoneType_tuple : wp (fIsi "tuple" [.non] M) Q E = Q (.bl false) M := w_isi (t := "NoneType") rfl (by decide +kernel)
@[simp ↓] theorem w_isi_NoneType_str : wp (fIsi "str" [.non] M) Q E = Q (.bl false) M := w_isi (t := "NoneType") rfl (by decide +kernel)
@[simp ↓] theorem w_isi_NoneType_int : wp (fIsi "int" [.non] M) Q E = Q (.bl false) M := w_isi (t := "NoneType") rfl (by decide +kernel)
@[simp ↓] theorem w_isi_NoneType_bool : wp (fIsi "bool" [.non] M) Q E = Q (.bl false) M := w_isi (t := "NoneType") rfl (by decide +kernel)
@[simp ↓] theorem w_isi_NoneType_list : wp (fIsi "list" [.non] M) Q E = Q (.bl false) M := w_isi (t := "NoneType") rfl (by decide +kernel)
@[simp ↓] theorem w_isi_NoneType_dict : wp (fIsi "dict" [.non] M) Q E = Q (.bl false) M := w_isi (t := "NoneType") rfl (by decide +kernel)
@[simp ↓] theorem w_isi_bool_tuple {b : Bool} : wp (fIsi "tuple" [(.bl b)] M) Q E = Q (.bl false) M := w_isi (t := "bool") rfl (by decide +kernel)
@[simp ↓] theorem w_isi_bool_str {b : Bool} : wp (fIsi "str" [(.bl b)] M) Q E = Q (.bl false) M := w_isi (t := "bool") rfl (by decide +kernel)
@[simp ↓] theorem w_isi_bool_int {b : Bool} : wp (fIsi "int" [(.bl b)] M) Q E = Q (.bl true) M := w_isi (t := "bool") rfl (by decide +kernel)
@[simp ↓] theorem w_isi_bool_bool {b : Bool} : wp (fIsi "bool" [(.bl b)] M) Q E = Q (.bl true) M := w_isi (t := "bool") rfl (by decide +kernel)
@[simp ↓] theorem w_isi_bool_list {b : Bool} : wp (fIsi "list" [(.bl b)] M) Q E = Q (.bl false) M := w_isi (t := "bool") rfl (by decide +kernel)
@[simp ↓] theorem w_isi_bool_dict {b : Bool} : wp (fIsi "dict" [(.bl b)] M) Q E = Q (.bl false) M := w_isi (t := "bool") rfl (by decide +kernel)
@[simp ↓] theorem w_isi_int_tuple {i : Int} : wp (fIsi "tuple" [(.int i)] M) Q E = Q (.bl false) M := w_isi (t := "int") rfl (by decide +kernel)
@[simp ↓] theorem w_isi_int_str {i : Int} : wp (fIsi "str" [(.int i)] M) Q E = Q (.bl false) M := w_isi (t := "int") rfl (by decide +kernel)
@[simp ↓] theorem w_isi_int_int {i : Int} : wp (fIsi "int" [(.int i)] M) Q E = Q (.bl true) M := w_isi (t := "int") rfl (by decide +kernel)
@[simp ↓] theorem w_isi_int_bool {i : Int} : wp (fIsi "bool" [(.int i)] M) Q E = Q (.bl false) M := w_isi (t := "int") rfl (by decide +kernel)
@[simp ↓] theorem w_isi_int_list {i : Int} : wp (fIsi "list" [(.int i)] M) Q E = Q (.bl false) M := w_isi (t := "int") rfl (by decide +kernel)
@[simp ↓] theorem w_isi_int_dict {i : Int} : wp (fIsi "dict" [(.int i)] M) Q E = Q (.bl false) M := w_isi (t := "int") rfl (by decide +kernel)
@[simp ↓] theorem w_isi_str_tuple {s : Tx} : wp (fIsi "tuple" [(.str s)] M) Q E = Q (.bl false) M := w_isi (t := "str") rfl (by decide +kernel)
@[simp ↓] theorem w_isi_str_str {s : Tx} : wp (fIsi "str" [(.str s)] M) Q E = Q (.bl true) M := w_isi (t := "str") rfl (by decide +kernel)
@[simp ↓] theorem w_isi_str_int {s : Tx} : wp (fIsi "int" [(.str s)] M) Q E = Q (.bl false) M := w_isi (t := "str") rfl (by decide +kernel)
@[simp ↓] theorem w_isi_str_bool {s : Tx} : wp (fIsi "bool" [(.str s)] M) Q E = Q (.bl false) M := w_isi (t := "str") rfl (by decide +kernel)
@[simp ↓] theorem w_isi_str_list {s : Tx} : wp (fIsi "list" [(.str s)] M) Q E = Q (.bl false) M := w_isi (t := "str") rfl (by decide +kernel)
@[simp ↓] theorem w_isi_str_dict {s : Tx} : wp (fIsi "dict" [(.str s)] M) Q E = Q (.bl false) M := w_isi (t := "str") rfl (by decide +kernel)
@[simp ↓] theorem w_isi_tuple_tuple {l : List MV} : wp (fIsi "tuple" [(.tup l)] M) Q E = Q (.bl true) M := w_isi (t := "tuple") rfl (by decide +kernel)
@[simp ↓] theorem w_isi_tuple_str {l : List MV} : wp (fIsi "str" [(.tup l)] M) Q E = Q (.bl false) M := w_isi (t := "tuple") rfl (by decide +kernel)
@[simp ↓] theorem w_isi_tuple_int {l : List MV} : wp (fIsi "int" [(.tup l)] M) Q E = Q (.bl false) M := w_isi (t := "tuple") rfl (by decide +kernel)
@[simp ↓] theorem w_isi_tuple_bool {l : List MV} : wp (fIsi "bool" [(.tup l)] M) Q E = Q (.bl false) M := w_isi (t := "tuple") rfl (by decide +kernel)
@[simp ↓] theorem w_isi_tuple_list {l : List MV} : wp (fIsi "list" [(.tup l)] M) Q E = Q (.bl false) M := w_isi (t := "tuple") rfl (by decide +kernel)
@[simp ↓] theorem w_isi_tuple_dict {l : List MV} : wp (fIsi "dict" [(.tup l)] M) Q E = Q (.bl false) M := w_isi (t := "tuple") rfl (by decide +kernel)
end

/-! ### targets -/
section
variable {Q : Env → Hm → Prop} {E : MX → Hm → Prop} {M : Hm} {env : Env}
@[simp ↓] theorem w_gN {i : Nat} {d : MV} : wp (gN i d env M) Q E = Q (env.set i (some d)) M := nr rfl
@[simp ↓] theorem w_gT {n : Nat} {r : Ftgs} {l : List MV} : wp (gT n r (.tup l) env M) Q E = if l.length = n then wp (r l env M) Q E else False := by unfold gT; simp
@[simp ↓] theorem w_gsNil : wp (gsNil [] env M) Q E = Q env M := nr rfl
@[simp ↓] theorem w_gsCons {g : Ftg} {r : Ftgs} {d : MV} {ds : List MV} : wp (gsCons g r (d :: ds) env M) Q E = wp (g d env M) (fun e1 M1 => wp (r ds e1 M1) Q E) E := by unfold gsCons; simp
@[simp ↓] theorem w_gIx {f : MV → MV → MV → Hm → R MV} {a b : Fe} {d : MV} : wp (gIx f a b d env M) Q E = wp (a env M) (fun x M1 => wp (b env M1) (fun y M2 => wp (f x y d M2) (fun _ M3 => Q env M3) (fun _ _ => False)) (fun _ _ => False)) (fun _ _ => False) := by unfold gIx; simp
theorem w_mX {o : Option Nat} {k : Nat} {l : List MV} {d : MV} {Q : MV → Hm → Prop} : wp (match o with | some j => .ok .non (M.set k (.lst (l.set j d))) | none => .bad) Q E = rdO o (fun j => Q .non (M.set k (.lst (l.set j d)))) := by cases o <;> rfl
section
variable {Q : MV → Hm → Prop}
@[simp ↓] theorem w_setL {k : Nat} {i : Int} {d : MV} : wp (fSetL (.ref k) (.int i) d M) Q E = rdL M k (fun l => rdX l.length i fun j => Q .non (M.set k (.lst (l.set j d)))) := by
  show wp (match M[k]? with
    | some (.lst l) => (match L2.ixN l.length i with | some j => .ok .non (M.set k (.lst (l.set j d))) | none => .bad)
    | _ => .bad) Q E = _
  unfold rdL
  cases M[k]? with
  | none => rfl
  | some o =>
    cases o with
    | lst l => exact w_mX
    | _ => rfl
end
end

/-! ### statements -/
section
variable {Q : O → Env → Hm → Prop} {E : MX → Env → Hm → Prop} {M : Hm} {env : Env} {a b : Fs} {e : Fe} {c : Ft}
@[simp ↓] theorem wS_ok {o : O} : wpS (.ok o env M) Q E = Q o env M := nr rfl
@[simp ↓] theorem wS_exc {x : MX} : wpS (.exc x env M) Q E = E x env M := nr rfl
@[simp ↓] theorem wS_bad : wpS .bad Q E = False := nr rfl
@[simp ↓] theorem wS_ite {c : Prop} [Decidable c] {a b : RS} : wpS (if c then a else b) Q E = if c then wpS a Q E else wpS b Q E := by split <;> rfl
@[simp ↓] theorem wS_st {α : Type} {r : R α} {f : α → Hm → RS} : wpS (r.st env f) Q E = wp r (fun a M1 => wpS (f a M1) Q E) (fun x M1 => E x env M1) := by cases r <;> rfl
@[simp ↓] theorem wS_nx : wpS (sNx env M) Q E = Q .nx env M := nr rfl
@[simp ↓] theorem wS_brk : wpS (sBrk env M) Q E = Q .brk env M := nr rfl
@[simp ↓] theorem wS_cnt : wpS (sCnt env M) Q E = Q .cnt env M := nr rfl
@[simp ↓] theorem wS_seq : wpS (sSeq a b env M) Q E = wpS (a env M) (fun o e1 M1 => match o with | .nx => wpS (b e1 M1) Q E | o => Q o e1 M1) E := by
  unfold sSeq
  cases a env M with
  | ok o e1 M1 => cases o <;> rfl
  | _ => rfl
@[simp ↓] theorem wS_set {i : Nat} : wpS (sSet i e env M) Q E = wp (e env M) (fun d M1 => Q .nx (env.set i (some d)) M1) (fun x M1 => E x env M1) := by unfold sSet; simp
@[simp ↓] theorem wS_asg {g : Ftg} : wpS (sAsg g e env M) Q E = wp (e env M) (fun d M1 => wp (g d env M1) (fun e1 M2 => Q .nx e1 M2) (fun x M2 => E x env M2)) (fun x M1 => E x env M1) := by unfold sAsg; simp
@[simp ↓] theorem wS_aug {f : MV → MV → Hm → R MV} {i : Nat} : wpS (sAug f i e env M) Q E = rdE env i (fun x => wp (e env M) (fun y M1 => wp (f x y M1) (fun z M2 => Q .nx (env.set i (some z)) M2) (fun x M2 => E x env M2)) (fun x M1 => E x env M1)) := by
  rw [rdE_eq]
  unfold sAug
  rcases h : env[i]? with _ | _ | x
  · rfl
  · rfl
  · simp
@[simp ↓] theorem wS_ex : wpS (sEx e env M) Q E = wp (e env M) (fun _ M1 => Q .nx env M1) (fun x M1 => E x env M1) := by unfold sEx; simp
@[simp ↓] theorem wS_ret : wpS (sRet e env M) Q E = wp (e env M) (fun d M1 => Q (.ret d) env M1) (fun x M1 => E x env M1) := by unfold sRet; simp
@[simp ↓] theorem wS_retN : wpS (sRetN env M) Q E = Q (.ret .non) env M := nr rfl
@[simp ↓] theorem wS_if : wpS (sIf c a b env M) Q E = wp (c env M) (fun k M1 => if k then wpS (a env M1) Q E else wpS (b env M1) Q E) (fun x M1 => E x env M1) := by unfold sIf; simp
theorem wS_pA {x y z : MV} : wpS (match x with
  | .ref k => (match M[k]? with
    | some (.dic l) => if isKey y && decide (l.length < SL) then .ok .nx env (M.set k (.dic (putD l y z))) else .bad
    | _ => .bad)
  | _ => .bad) Q E = (match x with
  | .ref k => rdD M k fun l => if isKey y && decide (l.length < SL) then Q .nx env (M.set k (.dic (putD l y z))) else False
  | _ => False) := by
  cases x with
  | ref k =>
    show wpS (match M[k]? with
    | some (.dic l) => if isKey y && decide (l.length < SL) then .ok .nx env (M.set k (.dic (putD l y z))) else .bad
    | _ => .bad) Q E = rdD M k fun l => if isKey y && decide (l.length < SL) then Q .nx env (M.set k (.dic (putD l y z))) else False
    unfold rdD
    cases M[k]? with
    | none => rfl
    | some o =>
      cases o with
      | dic l => exact wS_ite
      | _ => rfl
  | _ => rfl
@[simp ↓] theorem wS_putA {x y v : Fe} : wpS (sPutA x y v env M) Q E = wp (v env M) (fun z M1 => wp (x env M1) (fun d M2 => wp (y env M2) (fun k M3 => match d with
  | .ref j => rdD M3 j fun l => if isKey k && decide (l.length < SL) then Q .nx env (M3.set j (.dic (putD l k z))) else False
  | _ => False) (fun x M => E x env M)) (fun x M => E x env M)) (fun x M => E x env M) := by
  unfold sPutA
  rw [wS_st]
  congr 1
  funext z M1
  rw [wS_st]
  congr 1
  funext d M2
  rw [wS_st]
  congr 1
  funext k M3
  exact wS_pA
@[simp ↓] theorem wS_raise {c : Nat} : wpS (sRaiseC c env M) Q E = E ⟨c, none⟩ env M := nr rfl
@[simp ↓] theorem wS_while : wpS (sWhl c b env M) Q E = wpS (whlGo c b WL env M) Q E := nr rfl
@[simp ↓] theorem wS_for {it : Fi} {g : Ftg} : wpS (sFor it g b env M) Q E = wp (it env M) (fun p M1 => wpS (forGo p.1 g b p.2 0 env M1) Q E) (fun x M1 => E x env M1) := by unfold sFor; simp
theorem wS_try {sub : Nat → Option Bool} {i : Nat} {su : MX → Fs} : wpS (sTryAs a sub i su env M) Q E = wpS (a env M) Q (fun x e1 M1 => match sub x.cls with
    | some true => if i < e1.length then wpS (su x (e1.set i none) M1) (fun o e2 M2 => Q o (e2.set i none) M2) (fun _ _ _ => False) else False
    | some false => E x e1 M1
    | none => False) := by
  unfold sTryAs
  cases a env M with
  | ok o e1 M1 => rfl
  | exc x e1 M1 =>
    show wpS (match sub x.cls with
      | some true => if i < e1.length then (match su x (e1.set i none) M1 with
        | .ok o env2 M2 => .ok o (env2.set i none) M2
        | _ => .bad) else .bad
      | some false => .exc x e1 M1
      | none => .bad) Q E = (match sub x.cls with
      | some true => if i < e1.length then wpS (su x (e1.set i none) M1) (fun o e2 M2 => Q o (e2.set i none) M2) (fun _ _ _ => False) else False
      | some false => E x e1 M1
      | none => False)
    cases sub x.cls with
    | none => rfl
    | some k =>
      cases k with
      | false => rfl
      | true =>
        by_cases hl : i < e1.length
        · simp only [if_pos hl]
          cases su x (e1.set i none) M1 <;> rfl
        · simp only [if_neg hl]
          rfl
  | bad => rfl
/-- a while: Inv k, at most k turns to go -/
theorem wS_whl {Q : O → Env → Hm → Prop} {E : MX → Env → Hm → Prop} (Inv : Nat → Env → Hm → Prop)
    (step : ∀ k env M, Inv k env M → wp (c env M) (fun t M1 => if t then wpS (b env M1) (fun o e2 M2 => match o with
      | .nx => ∃ k', k' < k ∧ Inv k' e2 M2
      | .cnt => ∃ k', k' < k ∧ Inv k' e2 M2
      | .brk => Q .nx e2 M2
      | .ret d => Q (.ret d) e2 M2) E else Q .nx env M1) (fun x M1 => E x env M1)) :
    ∀ (n k : Nat) env M, k < n → Inv k env M → wpS (whlGo c b n env M) Q E := by
  intro n
  induction n with
  | zero => intro k env M hk; exact absurd hk (Nat.not_lt_zero _)
  | succ n ih =>
    intro k env M hk hi
    have h := step k env M hi
    show wpS ((c env M).st env fun k M1 => if k then
      match b env M1 with
      | .ok .nx env2 M2 => whlGo c b n env2 M2
      | .ok .cnt env2 M2 => whlGo c b n env2 M2
      | .ok .brk env2 M2 => .ok .nx env2 M2
      | r => r
    else .ok .nx env M1) Q E
    rw [wS_st]
    refine wp_mono h (fun t M1 h1 => ?_) fun _ _ h1 => h1
    cases t with
    | false => exact h1
    | true =>
      have h1 : wpS (b env M1) _ E := h1
      show wpS (match b env M1 with
      | .ok .nx env2 M2 => whlGo c b n env2 M2
      | .ok .cnt env2 M2 => whlGo c b n env2 M2
      | .ok .brk env2 M2 => .ok .nx env2 M2
      | r => r) Q E
      cases hb : b env M1 with
      | bad => rw [hb] at h1; exact h1
      | exc x e2 M2 => rw [hb] at h1; exact h1
      | ok o e2 M2 =>
        rw [hb] at h1
        cases o with
        | nx => obtain ⟨k', hk', hi'⟩ := h1; exact ih k' e2 M2 (by omega) hi'
        | cnt => obtain ⟨k', hk', hi'⟩ := h1; exact ih k' e2 M2 (by omega) hi'
        | brk => exact h1
        | ret d => exact h1
/-- a for over what is told from k on -/
theorem wS_for0 {Q : O → Env → Hm → Prop} {E : MX → Env → Hm → Prop} {g : Ftg} {ni : Ni} (Inv : Nat → Env → Hm → Prop) (N : Nat)
    (hn : ∀ k env M, Inv k env M → k ≤ N → ∃ o, ni M k = some o ∧ (o = none ↔ k = N))
    (step : ∀ k d env M, k < N → ni M k = some (some d) → Inv k env M → wp (g d env M) (fun e1 M1 => wpS (b e1 M1) (fun o e2 M2 => match o with
      | .nx => Inv (k + 1) e2 M2
      | .cnt => Inv (k + 1) e2 M2
      | .brk => Q .nx e2 M2
      | .ret d => Q (.ret d) e2 M2) E) (fun x M1 => E x env M1))
    (hend : ∀ env M, Inv N env M → Q .nx env M) :
    ∀ (n k : Nat) env M, k + n = N + 1 → k ≤ N → Inv k env M → wpS (forGo ni g b n k env M) Q E := by
  intro n
  induction n with
  | zero => intro k env M h1 h2 _; omega
  | succ n ih =>
    intro k env M h1 h2 hi
    obtain ⟨o, ho, hk⟩ := hn k env M hi h2
    show wpS (match ni M k with
      | none => .bad
      | some none => .ok .nx env M
      | some (some x) => (g x env M).st env fun env1 M1 => match b env1 M1 with
        | .ok .nx env2 M2 => forGo ni g b n (k + 1) env2 M2
        | .ok .cnt env2 M2 => forGo ni g b n (k + 1) env2 M2
        | .ok .brk env2 M2 => .ok .nx env2 M2
        | r => r) Q E
    rw [ho]
    cases o with
    | none =>
      have e := hk.mp rfl
      subst e
      exact hend env M hi
    | some d =>
      have hlt : k < N := by
        rcases Nat.lt_or_ge k N with z | z
        · exact z
        · have := hk.mpr (by omega)
          cases this
      have h := step k d env M hlt ho hi
      show wpS ((g d env M).st env fun env1 M1 => match b env1 M1 with
        | .ok .nx env2 M2 => forGo ni g b n (k + 1) env2 M2
        | .ok .cnt env2 M2 => forGo ni g b n (k + 1) env2 M2
        | .ok .brk env2 M2 => .ok .nx env2 M2
        | r => r) Q E
      rw [wS_st]
      refine wp_mono h (fun e1 M1 h1 => ?_) fun _ _ h1 => h1
      cases hb : b e1 M1 with
      | bad => rw [hb] at h1; exact h1
      | exc x e2 M2 => rw [hb] at h1; exact h1
      | ok o e2 M2 =>
        rw [hb] at h1
        cases o with
        | nx => exact ih (k + 1) e2 M2 (by omega) (by omega) h1
        | cnt => exact ih (k + 1) e2 M2 (by omega) (by omega) h1
        | brk => exact h1
        | ret d => exact h1
theorem wS_forT {Q : O → Env → Hm → Prop} {E : MX → Env → Hm → Prop} {g : Ftg} {l : List MV} (Inv : Nat → Env → Hm → Prop) (h0 : Inv 0 env M)
    (step : ∀ k d env M, l[k]? = some d → Inv k env M → wp (g d env M) (fun e1 M1 => wpS (b e1 M1) (fun o e2 M2 => match o with
      | .nx => Inv (k + 1) e2 M2
      | .cnt => Inv (k + 1) e2 M2
      | .brk => Q .nx e2 M2
      | .ret d => Q (.ret d) e2 M2) E) (fun x M1 => E x env M1))
    (hend : ∀ env M, Inv l.length env M → Q .nx env M) : wpS (forGo (nT l) g b (l.length + 1) 0 env M) Q E := by
  refine wS_for0 Inv l.length (fun k env M _ hk => ⟨l[k]?, rfl, ?_⟩) (fun k d env M _ hd hi => step k d env M (Option.some.inj hd) hi) hend _ 0 env M (by omega) (by omega) h0
  rw [List.getElem?_eq_none_iff]
  omega
theorem wS_forR {Q : O → Env → Hm → Prop} {E : MX → Env → Hm → Prop} {g : Ftg} {lo c : Int} {n : Nat} (Inv : Nat → Env → Hm → Prop) (h0 : Inv 0 env M)
    (step : ∀ k env M, k < n → Inv k env M → wp (g (.int (lo + k * c)) env M) (fun e1 M1 => wpS (b e1 M1) (fun o e2 M2 => match o with
      | .nx => Inv (k + 1) e2 M2
      | .cnt => Inv (k + 1) e2 M2
      | .brk => Q .nx e2 M2
      | .ret d => Q (.ret d) e2 M2) E) (fun x M1 => E x env M1))
    (hend : ∀ env M, Inv n env M → Q .nx env M) : wpS (forGo (nR lo c n) g b (n + 1) 0 env M) Q E := by
  refine wS_for0 Inv n (fun k env M _ hk => ⟨_, rfl, ?_⟩) (fun k d env M hk hd hi => ?_) hend _ 0 env M (by omega) (by omega) h0
  · by_cases h : k < n
    · rw [if_pos h]
      constructor
      · intro z; cases z
      · intro z; omega
    · rw [if_neg h]
      constructor
      · intro _; omega
      · intro _; rfl
  · unfold nR at hd
    rw [if_pos hk] at hd
    cases hd
    exact step k env M hk hi
end
/-! ### what is walked -/
section
variable {Q : Ni × Nat → Hm → Prop} {E : MX → Hm → Prop} {M : Hm} {env : Env} {a : Fe} {t : Fa}
@[simp ↓] theorem w_iRg {f : List MV → Hm → R (Ni × Nat)} : wp (iRg f t env M) Q E = wp (t env M) (fun xs M1 => wp (f xs M1) Q E) E := by unfold iRg; simp
@[simp ↓] theorem w_rg1 {j : Int} : wp (rg1 [.int j] M) Q E = if in62 j then Q (nR 0 1 j.toNat, j.toNat + 1) M else False := by unfold rg1; simp
@[simp ↓] theorem w_rg2 {i j : Int} : wp (rg2 [.int i, .int j] M) Q E = if in62 i && in62 j then Q (nR i 1 (j - i).toNat, (j - i).toNat + 1) M else False := by unfold rg2; simp
@[simp ↓] theorem w_iA : wp (iA a env M) Q E = wp (a env M) (fun x M1 => rdIt M1 x fun p => Q p M1) E := by
  unfold iA
  rw [wp_bind]
  congr 1
  funext x M1
  cases x with
  | ref i =>
    show wp (match M1[i]? with
      | some (.lst l) => .ok (nL i, l.length + 1) M1
      | _ => .bad) Q E = rdL M1 i fun l => Q (nL i, l.length + 1) M1
    unfold rdL
    cases M1[i]? with
    | none => rfl
    | some o => cases o <;> rfl
  | _ => rfl
end
/-! ### comprehensions -/
section
variable {Q : MV → Hm → Prop} {E : MX → Hm → Prop} {M : Hm} {env : Env} {e : Fe} {c : Ft} {g : Ftg} {it : Fi} {vs : List Nat}
@[simp ↓] theorem w_lc : wp (eLc it g c e vs env M) Q E = wp (it env M) (fun p M1 => wp (lcGo p.1 g c e (wipeE env vs) p.2 0 [] M1) (fun l M2 => Q (.ref M2.length) (M2 ++ [.lst l])) E) E := by unfold eLc; simp
theorem w_lc0 {Ql : List MV → Hm → Prop} {ni : Ni} (Inv : Nat → List MV → Hm → Prop) (N : Nat)
    (hn : ∀ k acc M, Inv k acc M → k ≤ N → ∃ o, ni M k = some o ∧ (o = none ↔ k = N))
    (step : ∀ k d acc M, k < N → ni M k = some (some d) → Inv k acc M → wp (g d env M) (fun e1 M1 => wp (c e1 M1) (fun t M2 => if t then wp (e e1 M2) (fun y M3 => acc.length < SL ∧ Inv (k + 1) (acc ++ [y]) M3) (fun _ _ => False) else Inv (k + 1) acc M2) (fun _ _ => False)) (fun _ _ => False))
    (hend : ∀ acc M, Inv N acc M → Ql acc M) :
    ∀ (n k : Nat) acc M, k + n = N + 1 → k ≤ N → Inv k acc M → wp (lcGo ni g c e env n k acc M) Ql E := by
  intro n
  induction n with
  | zero => intro k acc M h1 h2 _; omega
  | succ n ih =>
    intro k acc M h1 h2 hi
    obtain ⟨o, ho, hk⟩ := hn k acc M hi h2
    show wp (match ni M k with
      | none => .bad
      | some none => .ok acc M
      | some (some x) => (g x env M).bindN fun env1 M1 => (c env1 M1).bindN fun b M2 =>
        if b then (e env1 M2).bindN fun y M3 => if acc.length < SL then lcGo ni g c e env n (k + 1) (acc ++ [y]) M3 else .bad
        else lcGo ni g c e env n (k + 1) acc M2) Ql E
    rw [ho]
    cases o with
    | none =>
      have z := hk.mp rfl
      subst z
      exact hend acc M hi
    | some d =>
      have hlt : k < N := by
        rcases Nat.lt_or_ge k N with z | z
        · exact z
        · have := hk.mpr (by omega)
          cases this
      have h := step k d acc M hlt ho hi
      show wp ((g d env M).bindN fun env1 M1 => (c env1 M1).bindN fun b M2 =>
        if b then (e env1 M2).bindN fun y M3 => if acc.length < SL then lcGo ni g c e env n (k + 1) (acc ++ [y]) M3 else .bad
        else lcGo ni g c e env n (k + 1) acc M2) Ql E
      simp only [wp_bindN, wp_ite]
      refine wp_mono h (fun e1 M1 h1 => wp_mono h1 (fun t M2 h2' => ?_) fun _ _ z => z) fun _ _ z => z
      cases t with
      | false => exact ih (k + 1) acc M2 (by omega) (by omega) h2'
      | true =>
        refine wp_mono h2' (fun y M3 h3 => ?_) fun _ _ z => z
        rw [if_pos h3.1]
        exact ih (k + 1) _ M3 (by omega) (by omega) h3.2
theorem w_lcT {Ql : List MV → Hm → Prop} {l : List MV} (Inv : Nat → List MV → Hm → Prop) (h0 : Inv 0 [] M)
    (step : ∀ k d acc M, l[k]? = some d → Inv k acc M → wp (g d env M) (fun e1 M1 => wp (c e1 M1) (fun t M2 => if t then wp (e e1 M2) (fun y M3 => acc.length < SL ∧ Inv (k + 1) (acc ++ [y]) M3) (fun _ _ => False) else Inv (k + 1) acc M2) (fun _ _ => False)) (fun _ _ => False))
    (hend : ∀ acc M, Inv l.length acc M → Ql acc M) : wp (lcGo (nT l) g c e env (l.length + 1) 0 [] M) Ql E := by
  refine w_lc0 Inv l.length (fun k acc M _ hk => ⟨l[k]?, rfl, ?_⟩) (fun k d acc M _ hd hi => step k d acc M (Option.some.inj hd) hi) hend _ 0 [] M (by omega) (by omega) h0
  rw [List.getElem?_eq_none_iff]
  omega
theorem w_lcR {Ql : List MV → Hm → Prop} {lo cc : Int} {n : Nat} (Inv : Nat → List MV → Hm → Prop) (h0 : Inv 0 [] M)
    (step : ∀ k acc M, k < n → Inv k acc M → wp (g (.int (lo + k * cc)) env M) (fun e1 M1 => wp (c e1 M1) (fun t M2 => if t then wp (e e1 M2) (fun y M3 => acc.length < SL ∧ Inv (k + 1) (acc ++ [y]) M3) (fun _ _ => False) else Inv (k + 1) acc M2) (fun _ _ => False)) (fun _ _ => False))
    (hend : ∀ acc M, Inv n acc M → Ql acc M) : wp (lcGo (nR lo cc n) g c e env (n + 1) 0 [] M) Ql E := by
  refine w_lc0 Inv n (fun k acc M _ hk => ⟨_, rfl, ?_⟩) (fun k d acc M hk hd hi => ?_) hend _ 0 [] M (by omega) (by omega) h0
  · by_cases h : k < n
    · rw [if_pos h]
      constructor
      · intro z; cases z
      · intro z; omega
    · rw [if_neg h]
      constructor
      · intro _; omega
      · intro _; rfl
  · unfold nR at hd
    rw [if_pos hk] at hd
    cases hd
    exact step k acc M hk hi
end
/-! ### defs -/
theorem w_run {tab : Nat → Option Df} {n f : Nat} {ds : List MV} {M : Hm} {Q : MV → Hm → Prop} {E : MX → Hm → Prop} {d : Df} (h : tab f = some d) (hl : ds.length = d.np)
    (hb : wpS (d.bd (run tab n) (ds.map some ++ List.replicate (d.ns - d.np) none) M) (fun o _ M1 => match o with
      | .nx => gcQ M M1 .non Q
      | .ret v => gcQ M M1 v Q
      | _ => False) (fun x _ M1 => gcE M M1 x E)) : wp (run tab (n + 1) f ds M) Q E := by
  show wp (match tab f with
    | some d => callD d (run tab n) ds M
    | none => .bad) Q E
  rw [h]
  show wp (callD d (run tab n) ds M) Q E
  unfold callD
  rw [if_pos hl, w_gcR]
  cases hr : d.bd (run tab n) (ds.map some ++ List.replicate (d.ns - d.np) none) M with
  | ok o e1 M1 =>
    rw [hr] at hb
    cases o <;> exact hb
  | exc x e1 M1 => rw [hr] at hb; exact hb
  | bad => rw [hr] at hb; exact hb
/-! ### the heap grows -/
/-- a block by what stands behind its first statement -/
theorem wS_cut {Q : O → Env → Hm → Prop} {E : MX → Env → Hm → Prop} {M : Hm} {env : Env} {a b : Fs} (P : Env → Hm → Prop) (h1 : wpS (a env M) (fun o e1 M1 => match o with | .nx => P e1 M1 | o => Q o e1 M1) E)
    (h2 : ∀ e1 M1, P e1 M1 → wpS (b e1 M1) Q E) : wpS (sSeq a b env M) Q E := by
  rw [wS_seq]
  refine wpS_mono h1 (fun o e1 M1 h => ?_) fun _ _ _ h => h
  cases o <;> first | exact h2 _ _ h | exact h
/-! ### limits -/
end D
/-- what must hold ahead: not to be seen through -/
structure wp {α : Type} (r : R α) (Q : α → Hm → Prop) (E : MX → Hm → Prop) : Prop where
  out : D.wp r Q E
structure wpS (r : RS) (Q : O → Env → Hm → Prop) (E : MX → Env → Hm → Prop) : Prop where
  out : D.wpS r Q E
theorem wp_eq {α : Type} {r : R α} {Q : α → Hm → Prop} {E : MX → Hm → Prop} : wp r Q E = D.wp r Q E := propext ⟨fun h => h.out, fun h => ⟨h⟩⟩
theorem wpS_eq {r : RS} {Q : O → Env → Hm → Prop} {E : MX → Env → Hm → Prop} : wpS r Q E = D.wpS r Q E := propext ⟨fun h => h.out, fun h => ⟨h⟩⟩
section
variable {α β : Type}
theorem wp_mono {r : R α} {Q Q' : α → Hm → Prop} {E E' : MX → Hm → Prop} (h : wp r Q E) (hq : ∀ a M, Q a M → Q' a M) (he : ∀ x M, E x M → E' x M) : wp r Q' E' := by
  simp only [wp_eq, wpS_eq] at *
  first | exact D.wp_mono | (apply D.wp_mono <;> assumption)
theorem wpS_mono {r : RS} {Q Q' : O → Env → Hm → Prop} {E E' : MX → Env → Hm → Prop} (h : wpS r Q E) (hq : ∀ o e M, Q o e M → Q' o e M) (he : ∀ x e M, E x e M → E' x e M) : wpS r Q' E' := by
  simp only [wp_eq, wpS_eq] at *
  first | exact D.wpS_mono | (apply D.wpS_mono <;> assumption)
theorem wp_ok_of {r : R α} {Q : α → Hm → Prop} (h : wp r Q fun _ _ => False) : ∃ a M, r = .ok a M ∧ Q a M := by
  simp only [wp_eq, wpS_eq] at *
  exact D.wp_ok_of h
variable {Q : α → Hm → Prop} {Qb : β → Hm → Prop} {E : MX → Hm → Prop} {M : Hm} {env : Env}
@[simp ↓] theorem wp_ok {a : α} : wp (.ok a M) Q E = Q a M := by
  simp only [wp_eq, wpS_eq] at *
  first | exact D.wp_ok | (apply D.wp_ok <;> assumption)
@[simp ↓] theorem wp_exc {x : MX} : wp (.exc x M) Q E = E x M := by
  simp only [wp_eq, wpS_eq] at *
  first | exact D.wp_exc | (apply D.wp_exc <;> assumption)
@[simp ↓] theorem wp_bad : wp .bad Q E = False := by
  simp only [wp_eq, wpS_eq] at *
  first | exact D.wp_bad | (apply D.wp_bad <;> assumption)
@[simp ↓] theorem wp_bind {r : R α} {f : α → Hm → R β} : wp (r.bind f) Qb E = wp r (fun a M => wp (f a M) Qb E) E := by
  simp only [wp_eq, wpS_eq] at *
  first | exact D.wp_bind | (apply D.wp_bind <;> assumption)
@[simp ↓] theorem wp_bindN {r : R α} {f : α → Hm → R β} : wp (r.bindN f) Qb E = wp r (fun a M => wp (f a M) Qb E) (fun _ _ => False) := by
  simp only [wp_eq, wpS_eq] at *
  first | exact D.wp_bindN | (apply D.wp_bindN <;> assumption)
theorem wp_ite {c : Prop} [Decidable c] {a b : R α} : wp (if c then a else b) Q E = if c then wp a Q E else wp b Q E := by
  simp only [wp_eq, wpS_eq]
  exact D.wp_ite
end
/-! ### readers: one step at the head, the rest unseen -/
/-! dicts -/
section
variable {M : Hm} {F : Bool → Prop}
end
section
variable {Q : MV → Hm → Prop} {Qb : Bool → Hm → Prop} {Ql : List MV → Hm → Prop} {E : MX → Hm → Prop} {M : Hm} {env : Env} {a b : Fe} {t : Fa} {c d : Ft}
@[simp ↓] theorem w_var {i : Nat} : wp (eVar i env M) Q E = rdE env i (fun d => Q d M) := by
  simp only [wp_eq, wpS_eq] at *
  first | exact D.w_var | (apply D.w_var <;> assumption)
@[simp ↓] theorem w_c {d : MV} : wp (eC d env M) Q E = Q d M := by
  simp only [wp_eq, wpS_eq] at *
  first | exact D.w_c | (apply D.w_c <;> assumption)
@[simp ↓] theorem w_op {f : MV → MV → Hm → R MV} : wp (eOp f a b env M) Q E = wp (a env M) (fun x M1 => wp (b env M1) (fun y M2 => wp (f x y M2) Q E) E) E := by
  simp only [wp_eq, wpS_eq] at *
  first | exact D.w_op | (apply D.w_op <;> assumption)
@[simp ↓] theorem w_un {f : MV → Hm → R MV} : wp (eUn f a env M) Q E = wp (a env M) (fun x M1 => wp (f x M1) Q E) E := by
  simp only [wp_eq, wpS_eq] at *
  first | exact D.w_un | (apply D.w_un <;> assumption)
@[simp ↓] theorem w_aNil : wp (aNil env M) Ql E = Ql [] M := by
  simp only [wp_eq, wpS_eq] at *
  first | exact D.w_aNil | (apply D.w_aNil <;> assumption)
@[simp ↓] theorem w_aCons : wp (aCons a t env M) Ql E = wp (a env M) (fun x M1 => wp (t env M1) (fun xs M2 => Ql (x :: xs) M2) E) E := by
  simp only [wp_eq, wpS_eq] at *
  first | exact D.w_aCons | (apply D.w_aCons <;> assumption)
@[simp ↓] theorem w_tup : wp (eTup t env M) Q E = wp (t env M) (fun xs M1 => ((xs.length ≤ SL) ∧ (Q (.tup xs) M1))) E := by
  simp only [wp_eq, wpS_eq, ifB_eq] at *
  first | exact D.w_tup | exact (D.w_tup).trans (by simp only [ite_and]) | (rw [D.w_tup]; simp only [ite_and]; done) | (apply D.w_tup <;> assumption)
@[simp ↓] theorem w_lst : wp (eLst t env M) Q E = wp (t env M) (fun xs M1 => ((xs.length ≤ SL) ∧ (Q (.ref M1.length) (M1 ++ [.lst xs])))) E := by
  simp only [wp_eq, wpS_eq, ifB_eq] at *
  first | exact D.w_lst | exact (D.w_lst).trans (by simp only [ite_and]) | (rw [D.w_lst]; simp only [ite_and]; done) | (apply D.w_lst <;> assumption)
@[simp ↓] theorem w_fn {f : List MV → Hm → R MV} : wp (eFn f t env M) Q E = wp (t env M) (fun xs M1 => wp (f xs M1) Q E) E := by
  simp only [wp_eq, wpS_eq] at *
  first | exact D.w_fn | (apply D.w_fn <;> assumption)
@[simp ↓] theorem w_call {G : Ga} {f : Nat} : wp (eCall G f t env M) Q E = wp (t env M) (fun xs M1 => wp (G f xs M1) Q E) E := by
  simp only [wp_eq, wpS_eq] at *
  first | exact D.w_call | (apply D.w_call <;> assumption)
@[simp ↓] theorem w_met {ty : Ty} {f : MV → List MV → Hm → R MV} : wp (eMet ty f a t env M) Q E = wp (a env M) (fun x M1 => rdTy M1 ty x (wp (t env M1) (fun xs M2 => wp (f x xs M2) Q E) E)) E := by
  simp only [wp_eq, wpS_eq] at *
  first | exact D.w_met | (apply D.w_met <;> assumption)
@[simp ↓] theorem w_if : wp (eIf c a b env M) Q E = wp (c env M) (fun k M1 => ifB (k) (wp (a env M1) Q E) (wp (b env M1) Q E)) E := by
  simp only [wp_eq, wpS_eq, ifB_eq] at *
  first | exact D.w_if | exact (D.w_if).trans (by simp only [ite_and]) | (rw [D.w_if]; simp only [ite_and]; done) | (apply D.w_if <;> assumption)
@[simp ↓] theorem w_and : wp (eAnd a b env M) Q E = wp (a env M) (fun x M1 => match x with | .bl k => ifB (k) (wp (b env M1) Q E) (Q (.bl false) M1) | _ => False) E := by
  simp only [wp_eq, wpS_eq, ifB_eq] at *
  first | exact D.w_and | exact (D.w_and).trans (by simp only [ite_and]) | (rw [D.w_and]; simp only [ite_and]; done) | (apply D.w_and <;> assumption)
@[simp ↓] theorem w_or : wp (eOr a b env M) Q E = wp (a env M) (fun x M1 => match x with | .bl k => ifB (k) (Q (.bl true) M1) (wp (b env M1) Q E) | _ => False) E := by
  simp only [wp_eq, wpS_eq, ifB_eq] at *
  first | exact D.w_or | exact (D.w_or).trans (by simp only [ite_and]) | (rw [D.w_or]; simp only [ite_and]; done) | (apply D.w_or <;> assumption)
@[simp ↓] theorem w_t : wp (eT c env M) Q E = wp (c env M) (fun k M1 => Q (.bl k) M1) E := by
  simp only [wp_eq, wpS_eq] at *
  first | exact D.w_t | (apply D.w_t <;> assumption)
@[simp ↓] theorem w_v : wp (cV a env M) Qb E = wp (a env M) (fun x M1 => rdT M1 x fun k => Qb k M1) E := by
  simp only [wp_eq, wpS_eq] at *
  first | exact D.w_v | (apply D.w_v <;> assumption)
@[simp ↓] theorem w_b : wp (cB a env M) Qb E = wp (a env M) (fun x M1 => match x with | .bl k => Qb k M1 | _ => False) E := by
  simp only [wp_eq, wpS_eq] at *
  first | exact D.w_b | (apply D.w_b <;> assumption)
@[simp ↓] theorem w_cAnd : wp (cAnd c d env M) Qb E = wp (c env M) (fun k M1 => ifB (k) (wp (d env M1) Qb E) (Qb false M1)) E := by
  simp only [wp_eq, wpS_eq, ifB_eq] at *
  first | exact D.w_cAnd | exact (D.w_cAnd).trans (by simp only [ite_and]) | (rw [D.w_cAnd]; simp only [ite_and]; done) | (apply D.w_cAnd <;> assumption)
@[simp ↓] theorem w_cOr : wp (cOr c d env M) Qb E = wp (c env M) (fun k M1 => ifB (k) (Qb true M1) (wp (d env M1) Qb E)) E := by
  simp only [wp_eq, wpS_eq, ifB_eq] at *
  first | exact D.w_cOr | exact (D.w_cOr).trans (by simp only [ite_and]) | (rw [D.w_cOr]; simp only [ite_and]; done) | (apply D.w_cOr <;> assumption)
@[simp ↓] theorem w_cNot : wp (cNot c env M) Qb E = wp (c env M) (fun k M1 => Qb (!k) M1) E := by
  simp only [wp_eq, wpS_eq] at *
  first | exact D.w_cNot | (apply D.w_cNot <;> assumption)
@[simp ↓] theorem w_cYes : wp (cYes env M) Qb E = Qb true M := by
  simp only [wp_eq, wpS_eq] at *
  first | exact D.w_cYes | (apply D.w_cYes <;> assumption)
/-! operations -/
@[simp ↓] theorem w_addI {i j : Int} : wp (fAdd (.int i) (.int j) M) Q E = Q (.int (i + j)) M := by
  simp only [wp_eq, wpS_eq] at *
  first | exact D.w_addI | (apply D.w_addI <;> assumption)
@[simp ↓] theorem w_addS {s t : Tx} : wp (fAdd (.str s) (.str t) M) Q E = ((s.length + t.length ≤ SL) ∧ (Q (.str (s ++ t)) M)) := by
  simp only [wp_eq, wpS_eq, ifB_eq] at *
  first | exact D.w_addS | exact (D.w_addS).trans (by simp only [ite_and]) | (rw [D.w_addS]; simp only [ite_and]; done) | (apply D.w_addS <;> assumption)
@[simp ↓] theorem w_addT {s t : List MV} : wp (fAdd (.tup s) (.tup t) M) Q E = ((s.length + t.length ≤ SL) ∧ (Q (.tup (s ++ t)) M)) := by
  simp only [wp_eq, wpS_eq, ifB_eq] at *
  first | exact D.w_addT | exact (D.w_addT).trans (by simp only [ite_and]) | (rw [D.w_addT]; simp only [ite_and]; done) | (apply D.w_addT <;> assumption)
theorem w_addL {i j : Nat} {s t : List MV} (hi : M[i]? = some (.lst s)) (hj : M[j]? = some (.lst t)) : wp (fAdd (.ref i) (.ref j) M) Q E = ((s.length + t.length ≤ SL) ∧ (Q (.ref M.length) (M ++ [.lst (s ++ t)]))) := by
  simp only [wp_eq]
  rw [D.w_addL hi hj, ite_and]
@[simp ↓] theorem w_iaddI {i j : Int} : wp (fIAdd (.int i) (.int j) M) Q E = Q (.int (i + j)) M := by
  simp only [wp_eq, wpS_eq] at *
  first | exact D.w_iaddI | (apply D.w_iaddI <;> assumption)
@[simp ↓] theorem w_iaddS {s t : Tx} : wp (fIAdd (.str s) (.str t) M) Q E = ((s.length + t.length ≤ SL) ∧ (Q (.str (s ++ t)) M)) := by
  simp only [wp_eq, wpS_eq, ifB_eq] at *
  first | exact D.w_iaddS | exact (D.w_iaddS).trans (by simp only [ite_and]) | (rw [D.w_iaddS]; simp only [ite_and]; done) | (apply D.w_iaddS <;> assumption)
@[simp ↓] theorem w_subI {i j : Int} : wp (fSub (.int i) (.int j) M) Q E = Q (.int (i - j)) M := by
  simp only [wp_eq, wpS_eq] at *
  first | exact D.w_subI | (apply D.w_subI <;> assumption)
@[simp ↓] theorem w_mulI {i j : Int} : wp (fMul (.int i) (.int j) M) Q E = ((cMul i j) ∧ (Q (.int (i * j)) M)) := by
  simp only [wp_eq, wpS_eq, ifB_eq] at *
  first | exact D.w_mulI | exact (D.w_mulI).trans (by simp only [ite_and]) | (rw [D.w_mulI]; simp only [ite_and]; done) | (apply D.w_mulI <;> assumption)
@[simp ↓] theorem w_divI {i j : Int} : wp (fDiv (.int i) (.int j) M) Q E = ((cDiv i j) ∧ (Q (.int (i / j)) M)) := by
  simp only [wp_eq, wpS_eq, ifB_eq] at *
  first | exact D.w_divI | exact (D.w_divI).trans (by simp only [ite_and]) | (rw [D.w_divI]; simp only [ite_and]; done) | (apply D.w_divI <;> assumption)
@[simp ↓] theorem w_modI {i j : Int} : wp (fMod (.int i) (.int j) M) Q E = ((cMod i j) ∧ (Q (.int (i % j)) M)) := by
  simp only [wp_eq, wpS_eq, ifB_eq] at *
  first | exact D.w_modI | exact (D.w_modI).trans (by simp only [ite_and]) | (rw [D.w_modI]; simp only [ite_and]; done) | (apply D.w_modI <;> assumption)
@[simp ↓] theorem w_powI {i j : Int} : wp (fPow (.int i) (.int j) M) Q E = ((cPow i j) ∧ (Q (.int (i ^ j.toNat)) M)) := by
  simp only [wp_eq, wpS_eq, ifB_eq] at *
  first | exact D.w_powI | exact (D.w_powI).trans (by simp only [ite_and]) | (rw [D.w_powI]; simp only [ite_and]; done) | (apply D.w_powI <;> assumption)
@[simp ↓] theorem w_negI {i : Int} : wp (fNeg (.int i) M) Q E = Q (.int (-i)) M := by
  simp only [wp_eq, wpS_eq] at *
  first | exact D.w_negI | (apply D.w_negI <;> assumption)
@[simp ↓] theorem w_ltI {i j : Int} : wp (fLt (.int i) (.int j) M) Q E = Q (.bl (decide (i < j))) M := by
  simp only [wp_eq, wpS_eq] at *
  first | exact D.w_ltI | (apply D.w_ltI <;> assumption)
@[simp ↓] theorem w_leI {i j : Int} : wp (fLe (.int i) (.int j) M) Q E = Q (.bl (decide (i ≤ j))) M := by
  simp only [wp_eq, wpS_eq] at *
  first | exact D.w_leI | (apply D.w_leI <;> assumption)
@[simp ↓] theorem w_gtI {i j : Int} : wp (fGt (.int i) (.int j) M) Q E = Q (.bl (decide (j < i))) M := by
  simp only [wp_eq, wpS_eq] at *
  first | exact D.w_gtI | (apply D.w_gtI <;> assumption)
@[simp ↓] theorem w_geI {i j : Int} : wp (fGe (.int i) (.int j) M) Q E = Q (.bl (decide (j ≤ i))) M := by
  simp only [wp_eq, wpS_eq] at *
  first | exact D.w_geI | (apply D.w_geI <;> assumption)
@[simp ↓] theorem w_ltS {i j : Tx} : wp (fLt (.str i) (.str j) M) Q E = Q (.bl (decide (i < j))) M := by
  simp only [wp_eq, wpS_eq] at *
  first | exact D.w_ltS | (apply D.w_ltS <;> assumption)
@[simp ↓] theorem w_gtS {i j : Tx} : wp (fGt (.str i) (.str j) M) Q E = Q (.bl (decide (j < i))) M := by
  simp only [wp_eq, wpS_eq] at *
  first | exact D.w_gtS | (apply D.w_gtS <;> assumption)
@[simp ↓] theorem w_eqI {i j : Int} {g : Bool → Bool} : wp (fEqG g (.int i) (.int j) M) Q E = Q (.bl (g (decide (i = j)))) M := by
  simp only [wp_eq, wpS_eq] at *
  first | exact D.w_eqI | (apply D.w_eqI <;> assumption)
@[simp ↓] theorem w_eqS {i j : Tx} {g : Bool → Bool} : wp (fEqG g (.str i) (.str j) M) Q E = Q (.bl (g (decide (i = j)))) M := by
  simp only [wp_eq, wpS_eq] at *
  first | exact D.w_eqS | (apply D.w_eqS <;> assumption)
@[simp ↓] theorem w_eqB {i j : Bool} {g : Bool → Bool} : wp (fEqG g (.bl i) (.bl j) M) Q E = Q (.bl (g (decide (i = j)))) M := by
  simp only [wp_eq, wpS_eq] at *
  first | exact D.w_eqB | (apply D.w_eqB <;> assumption)
@[simp ↓] theorem w_eqIS {i : Int} {j : Tx} {g : Bool → Bool} : wp (fEqG g (.int i) (.str j) M) Q E = Q (.bl (g false)) M := by
  simp only [wp_eq, wpS_eq] at *
  first | exact D.w_eqIS | (apply D.w_eqIS <;> assumption)
@[simp ↓] theorem w_eqSI {i : Int} {j : Tx} {g : Bool → Bool} : wp (fEqG g (.str j) (.int i) M) Q E = Q (.bl (g false)) M := by
  simp only [wp_eq, wpS_eq] at *
  first | exact D.w_eqSI | (apply D.w_eqSI <;> assumption)
theorem w_eq {x y : MV} {g : Bool → Bool} {b : Bool} (h : eqM M x y = some b) : wp (fEqG g x y M) Q E = Q (.bl (g b)) M := by
  simp only [wp_eq, wpS_eq] at *
  first | exact D.w_eq | (apply D.w_eq <;> assumption)
@[simp ↓] theorem w_inS {c : Nat} {t : Tx} {g : Bool → Bool} : wp (fInG g (.str [c]) (.str t) M) Q E = Q (.bl (g (decide (c ∈ t)))) M := by
  simp only [wp_eq, wpS_eq] at *
  first | exact D.w_inS | (apply D.w_inS <;> assumption)
@[simp ↓] theorem w_ixT {l : List MV} {i : Int} : wp (fIx (.tup l) (.int i) M) Q E = rdI l i (fun d => Q d M) := by
  simp only [wp_eq, wpS_eq] at *
  first | exact D.w_ixT | (apply D.w_ixT <;> assumption)
@[simp ↓] theorem w_ixR {l : List MV} {i : Int} : wp (fIx (.rol l) (.int i) M) Q E = rdI l i (fun d => Q d M) := by
  simp only [wp_eq, wpS_eq] at *
  first | exact D.w_ixR | (apply D.w_ixR <;> assumption)
@[simp ↓] theorem w_ixS {s : Tx} {i : Int} : wp (fIx (.str s) (.int i) M) Q E = ((s.length ≤ SL) ∧ (rdI s i (fun c => Q (.str [c]) M))) := by
  simp only [wp_eq, wpS_eq, ifB_eq] at *
  first | exact D.w_ixS | exact (D.w_ixS).trans (by simp only [ite_and]) | (rw [D.w_ixS]; simp only [ite_and]; done) | (apply D.w_ixS <;> assumption)
@[simp ↓] theorem w_ixL {k : Nat} {i : Int} : wp (fIx (.ref k) (.int i) M) Q E = rdL M k (fun l => rdI l i (fun d => Q d M)) := by
  simp only [wp_eq, wpS_eq] at *
  first | exact D.w_ixL | (apply D.w_ixL <;> assumption)
@[simp ↓] theorem w_sl {f : MV → Option Int → Option Int → Hm → R MV} {lo hi : Fo} : wp (eSl f a lo hi env M) Q E = wp (a env M) (fun x M1 => wp (lo env M1) (fun l M2 => wp (hi env M2) (fun u M3 => wp (f x l u M3) Q E) E) E) E := by
  simp only [wp_eq, wpS_eq] at *
  first | exact D.w_sl | (apply D.w_sl <;> assumption)
@[simp ↓] theorem w_oN {Qo : Option Int → Hm → Prop} : wp (oNone env M) Qo E = Qo none M := by
  simp only [wp_eq, wpS_eq] at *
  first | exact D.w_oN | (apply D.w_oN <;> assumption)
@[simp ↓] theorem w_oS {Qo : Option Int → Hm → Prop} : wp (oSome a env M) Qo E = wp (a env M) (fun x M1 => match x with | .int i => Qo (some i) M1 | _ => False) E := by
  simp only [wp_eq, wpS_eq] at *
  first | exact D.w_oS | (apply D.w_oS <;> assumption)
@[simp ↓] theorem w_slT {l : List MV} {lo hi : Option Int} : wp (fSl (.tup l) lo hi M) Q E = Q (.tup (cut l lo hi)) M := by
  simp only [wp_eq, wpS_eq] at *
  first | exact D.w_slT | (apply D.w_slT <;> assumption)
@[simp ↓] theorem w_slS {s : Tx} {lo hi : Option Int} : wp (fSl (.str s) lo hi M) Q E = ((s.length ≤ SL) ∧ (Q (.str (cut s lo hi)) M)) := by
  simp only [wp_eq, wpS_eq, ifB_eq] at *
  first | exact D.w_slS | exact (D.w_slS).trans (by simp only [ite_and]) | (rw [D.w_slS]; simp only [ite_and]; done) | (apply D.w_slS <;> assumption)
@[simp ↓] theorem w_lenS {s : Tx} : wp (fLen [.str s] M) Q E = ((s.length ≤ SL) ∧ (Q (.int s.length) M)) := by
  simp only [wp_eq, wpS_eq, ifB_eq] at *
  first | exact D.w_lenS | exact (D.w_lenS).trans (by simp only [ite_and]) | (rw [D.w_lenS]; simp only [ite_and]; done) | (apply D.w_lenS <;> assumption)
@[simp ↓] theorem w_lenT {s : List MV} : wp (fLen [.tup s] M) Q E = Q (.int s.length) M := by
  simp only [wp_eq, wpS_eq] at *
  first | exact D.w_lenT | (apply D.w_lenT <;> assumption)
@[simp ↓] theorem w_lenR {s : List MV} : wp (fLen [.rol s] M) Q E = Q (.int s.length) M := by
  simp only [wp_eq, wpS_eq] at *
  first | exact D.w_lenR | (apply D.w_lenR <;> assumption)
@[simp ↓] theorem w_lenL {k : Nat} : wp (fLen [.ref k] M) Q E = rdL M k (fun l => Q (.int l.length) M) := by
  simp only [wp_eq, wpS_eq] at *
  first | exact D.w_lenL | (apply D.w_lenL <;> assumption)
@[simp ↓] theorem w_str {i : Int} : wp (fStr [.int i] M) Q E = ((i.natAbs.log2 < 1920) ∧ (Q (.str (numT i)) M)) := by
  simp only [wp_eq, wpS_eq, ifB_eq] at *
  first | exact D.w_str | exact (D.w_str).trans (by simp only [ite_and]) | (rw [D.w_str]; simp only [ite_and]; done) | (apply D.w_str <;> assumption)
@[simp ↓] theorem w_intI {i : Int} : wp (fIntOf [.int i] M) Q E = Q (.int i) M := by
  simp only [wp_eq, wpS_eq] at *
  first | exact D.w_intI | (apply D.w_intI <;> assumption)
theorem w_intB {b : Bool} : wp (fIntOf [.bl b] M) Q E = Q (.int (match b with | true => 1 | false => 0)) M := by
  simp only [wp_eq, wpS_eq] at *
  first | exact D.w_intB | (apply D.w_intB <;> assumption)
@[simp ↓] theorem w_intBt : wp (fIntOf [.bl true] M) Q E = Q (.int 1) M := by
  simp only [wp_eq, wpS_eq] at *
  first | exact D.w_intBt | (apply D.w_intBt <;> assumption)
@[simp ↓] theorem w_intBf : wp (fIntOf [.bl false] M) Q E = Q (.int 0) M := by
  simp only [wp_eq, wpS_eq] at *
  first | exact D.w_intBf | (apply D.w_intBf <;> assumption)
@[simp ↓] theorem w_intS {s : Tx} : wp (fIntOf [.str s] M) Q E = ((allDig s && !s.isEmpty && decide (s.length ≤ 640)) ∧ (Q (.int (PySem.NumText.digitsVal s : Nat)) M)) := by
  simp only [wp_eq, wpS_eq, ifB_eq] at *
  first | exact D.w_intS | exact (D.w_intS).trans (by simp only [ite_and]) | (rw [D.w_intS]; simp only [ite_and]; done) | (apply D.w_intS <;> assumption)
@[simp ↓] theorem w_abs {i : Int} : wp (fAbs [.int i] M) Q E = Q (.int (i.natAbs : Int)) M := by
  simp only [wp_eq, wpS_eq] at *
  first | exact D.w_abs | (apply D.w_abs <;> assumption)
@[simp ↓] theorem w_ord {c : Nat} : wp (fOrd [.str [c]] M) Q E = Q (.int c) M := by
  simp only [wp_eq, wpS_eq] at *
  first | exact D.w_ord | (apply D.w_ord <;> assumption)
@[simp ↓] theorem w_tupT {l : List MV} : wp (fTuple [.tup l] M) Q E = Q (.tup l) M := by
  simp only [wp_eq, wpS_eq] at *
  first | exact D.w_tupT | (apply D.w_tupT <;> assumption)
@[simp ↓] theorem w_tupR {l : List MV} : wp (fTuple [.rol l] M) Q E = Q (.tup l) M := by
  simp only [wp_eq, wpS_eq] at *
  first | exact D.w_tupR | (apply D.w_tupR <;> assumption)
@[simp ↓] theorem w_tupL {k : Nat} : wp (fTuple [.ref k] M) Q E = rdL M k (fun l => Q (.tup l) M) := by
  simp only [wp_eq, wpS_eq] at *
  first | exact D.w_tupL | (apply D.w_tupL <;> assumption)
@[simp ↓] theorem w_listT {l : List MV} : wp (fList [.tup l] M) Q E = Q (.ref M.length) (M ++ [.lst l]) := by
  simp only [wp_eq, wpS_eq] at *
  first | exact D.w_listT | (apply D.w_listT <;> assumption)
@[simp ↓] theorem w_listR {l : List MV} : wp (fList [.rol l] M) Q E = Q (.ref M.length) (M ++ [.lst l]) := by
  simp only [wp_eq, wpS_eq] at *
  first | exact D.w_listR | (apply D.w_listR <;> assumption)
@[simp ↓] theorem w_listL {k : Nat} : wp (fList [.ref k] M) Q E = rdL M k (fun l => Q (.ref M.length) (M ++ [.lst l])) := by
  simp only [wp_eq, wpS_eq] at *
  first | exact D.w_listL | (apply D.w_listL <;> assumption)
@[simp ↓] theorem w_divmod {i j : Int} : wp (fDivmod [.int i, .int j] M) Q E = ((cDiv i j) ∧ (Q (.tup [.int (i / j), .int (i % j)]) M)) := by
  simp only [wp_eq, wpS_eq, ifB_eq] at *
  first | exact D.w_divmod | exact (D.w_divmod).trans (by simp only [ite_and]) | (rw [D.w_divmod]; simp only [ite_and]; done) | (apply D.w_divmod <;> assumption)
@[simp ↓] theorem w_append {k : Nat} {d : MV} : wp (fAppend (.ref k) [d] M) Q E = rdL M k (fun l => ((l.length < SL) ∧ (Q .non (M.set k (.lst (l ++ [d])))))) := by
  simp only [wp_eq, wpS_eq, ifB_eq] at *
  first | exact D.w_append | exact (D.w_append).trans (by simp only [ite_and]) | (rw [D.w_append]; simp only [ite_and]; done) | (apply D.w_append <;> assumption)
@[simp ↓] theorem w_pop {k : Nat} : wp (fPop (.ref k) [] M) Q E = rdL M k (fun l => rdO l[l.length - 1]? fun d => Q d (M.set k (.lst l.dropLast))) := by
  simp only [wp_eq, wpS_eq] at *
  first | exact D.w_pop | (apply D.w_pop <;> assumption)
@[simp ↓] theorem w_join {k : Nat} {sep : Tx} : wp (fJoin (.str sep) [.ref k] M) Q E = rdL M k (fun l => rdO (textsOf l) fun ss => (((ss.map (·.length)).sum + ss.length * sep.length ≤ SL) ∧ (Q (.str (joinT sep ss)) M))) := by
  simp only [wp_eq, wpS_eq, ifB_eq] at *
  first | exact D.w_join | exact (D.w_join).trans (by simp only [ite_and]) | (rw [D.w_join]; simp only [ite_and]; done) | (apply D.w_join <;> assumption)
@[simp ↓] theorem w_rev {k : Nat} : wp (fRev (.ref k) M) Q E = rdL M k (fun l => Q (.ref M.length) (M ++ [.lst l.reverse])) := by
  simp only [wp_eq, wpS_eq] at *
  first | exact D.w_rev | (apply D.w_rev <;> assumption)
@[simp ↓] theorem w_revAT {l : List MV} : wp (fRevA (.tup l) M) Q E = Q (.tup l.reverse) M := by
  simp only [wp_eq, wpS_eq] at *
  first | exact D.w_revAT | (apply D.w_revAT <;> assumption)
@[simp ↓] theorem w_revAL {k : Nat} : wp (fRevA (.ref k) M) Q E = rdL M k (fun l => Q (.ref M.length) (M ++ [.lst l.reverse])) := by
  simp only [wp_eq, wpS_eq] at *
  first | exact D.w_revAL | (apply D.w_revAL <;> assumption)
@[simp ↓] theorem w_slL {k : Nat} {lo hi : Option Int} : wp (fSl (.ref k) lo hi M) Q E = rdL M k (fun l => Q (.ref M.length) (M ++ [.lst (cut l lo hi)])) := by
  simp only [wp_eq, wpS_eq] at *
  first | exact D.w_slL | (apply D.w_slL <;> assumption)
@[simp ↓] theorem w_listAS {s : Tx} : wp (fListA [.str s] M) Q E = ((s.length ≤ SL) ∧ (Q (.ref M.length) (M ++ [.lst (s.map fun c => .str [c])]))) := by
  simp only [wp_eq, wpS_eq, ifB_eq] at *
  first | exact D.w_listAS | exact (D.w_listAS).trans (by simp only [ite_and]) | (rw [D.w_listAS]; simp only [ite_and]; done) | (apply D.w_listAS <;> assumption)
@[simp ↓] theorem w_listAT {l : List MV} : wp (fListA [.tup l] M) Q E = Q (.ref M.length) (M ++ [.lst l]) := by
  simp only [wp_eq, wpS_eq] at *
  first | exact D.w_listAT | (apply D.w_listAT <;> assumption)
@[simp ↓] theorem w_listAR {l : List MV} : wp (fListA [.rol l] M) Q E = Q (.ref M.length) (M ++ [.lst l]) := by
  simp only [wp_eq, wpS_eq] at *
  first | exact D.w_listAR | (apply D.w_listAR <;> assumption)
@[simp ↓] theorem w_listAL {k : Nat} : wp (fListA [.ref k] M) Q E = rdL M k (fun l => Q (.ref M.length) (M ++ [.lst l])) := by
  simp only [wp_eq, wpS_eq] at *
  first | exact D.w_listAL | (apply D.w_listAL <;> assumption)
@[simp ↓] theorem w_find3 {x y : Tx} {i : Int} : wp (fFind3 (.str x) [.str y, .int i] M) Q E = Q (.int (PySem.Txt.find3 (T x) (T y) i)) M := by
  simp only [wp_eq, wpS_eq] at *
  first | exact D.w_find3 | (apply D.w_find3 <;> assumption)
@[simp ↓] theorem w_zfill {x : Tx} {i : Int} : wp (fZfill (.str x) [.int i] M) Q E = ((PySem.PadOk i && noSign x) ∧ (Q (.str (List.replicate (i.toNat - x.length) 48 ++ x)) M)) := by
  simp only [wp_eq, wpS_eq, ifB_eq] at *
  first | exact D.w_zfill | exact (D.w_zfill).trans (by simp only [ite_and]) | (rw [D.w_zfill]; simp only [ite_and]; done) | (apply D.w_zfill <;> assumption)
@[simp ↓] theorem w_all {k : Nat} {g : List Bool → Bool} : wp (fAllG g [.ref k] M) Q E = rdL M k (fun l => rdO (boolsOf l) fun bs => Q (.bl (g bs)) M) := by
  simp only [wp_eq, wpS_eq] at *
  first | exact D.w_all | (apply D.w_all <;> assumption)
@[simp ↓] theorem w_gcR {r : R MV} : wp (gcR M r) Q E = wp r (fun d M' => gcQ M M' d Q) (fun x M' => gcE M M' x E) := by
  simp only [wp_eq, wpS_eq] at *
  first | exact D.w_gcR | (apply D.w_gcR <;> assumption)
@[simp ↓] theorem w_gc {e : Fe} : wp (eGc e env M) Q E = wp (e env M) (fun d M' => gcQ M M' d Q) (fun x M' => gcE M M' x E) := by
  simp only [wp_eq, wpS_eq] at *
  first | exact D.w_gc | (apply D.w_gc <;> assumption)
@[simp ↓] theorem w_dic0 : wp (eDic0 env M) Q E = Q (.ref M.length) (M ++ [.dic []]) := by
  simp only [wp_eq, wpS_eq] at *
  first | exact D.w_dic0 | (apply D.w_dic0 <;> assumption)
@[simp ↓] theorem w_dic {ps : List (Fe × Fe)} : wp (eDic ps env M) Q E = wp (pPairs ps env M) (fun l M1 => Q (.ref M1.length) (M1 ++ [.dic (putAll [] l)])) (fun _ _ => False) := by
  simp only [wp_eq, wpS_eq] at *
  first | exact D.w_dic | (apply D.w_dic <;> assumption)
@[simp ↓] theorem w_pNil {Qp : List (MV × MV) → Hm → Prop} : wp (pPairs [] env M) Qp E = Qp [] M := by
  simp only [wp_eq, wpS_eq] at *
  first | exact D.w_pNil | (apply D.w_pNil <;> assumption)
@[simp ↓] theorem w_pCons {Qp : List (MV × MV) → Hm → Prop} {k v : Fe} {r : List (Fe × Fe)} : wp (pPairs ((k, v) :: r) env M) Qp E = wp (k env M) (fun x M1 => wp (v env M1) (fun y M2 => wp (pPairs r env M2) (fun l M3 => ((isKey x) ∧ (Qp ((x, y) :: l) M3))) E) E) E := by
  simp only [wp_eq, wpS_eq, ifB_eq] at *
  first | exact D.w_pCons | exact (D.w_pCons).trans (by simp only [ite_and]) | (rw [D.w_pCons]; simp only [ite_and]; done) | (apply D.w_pCons <;> assumption)
@[simp ↓] theorem w_kd {l : List (Tx × MV)} : wp (eKd l a env M) Q E = wp (a env M) (fun x M1 => match x with | .str s => rdO (l.lookup s) fun d => Q d M1 | _ => False) E := by
  simp only [wp_eq, wpS_eq] at *
  first | exact D.w_kd | (apply D.w_kd <;> assumption)
@[simp ↓] theorem w_ixAT {l : List MV} {i : Int} : wp (fIxA (.tup l) (.int i) M) Q E = rdI l i (fun d => Q d M) := by
  simp only [wp_eq, wpS_eq] at *
  first | exact D.w_ixAT | (apply D.w_ixAT <;> assumption)
@[simp ↓] theorem w_ixAR {l : List MV} {i : Int} : wp (fIxA (.rol l) (.int i) M) Q E = rdI l i (fun d => Q d M) := by
  simp only [wp_eq, wpS_eq] at *
  first | exact D.w_ixAR | (apply D.w_ixAR <;> assumption)
@[simp ↓] theorem w_ixAS {s : Tx} {i : Int} : wp (fIxA (.str s) (.int i) M) Q E = ((s.length ≤ SL) ∧ (rdI s i (fun c => Q (.str [c]) M))) := by
  simp only [wp_eq, wpS_eq, ifB_eq] at *
  first | exact D.w_ixAS | exact (D.w_ixAS).trans (by simp only [ite_and]) | (rw [D.w_ixAS]; simp only [ite_and]; done) | (apply D.w_ixAS <;> assumption)
@[simp ↓] theorem w_ixAL {k : Nat} {i : Int} : wp (fIxA (.ref k) (.int i) M) Q E = rdLD M k (fun l => rdI l i (fun d => Q d M)) (fun l => rdO (getD l (.int i)) fun d => Q d M) := by
  simp only [wp_eq, wpS_eq] at *
  first | exact D.w_ixAL | (apply D.w_ixAL <;> assumption)
@[simp ↓] theorem w_ixAD {k : Nat} {s : Tx} : wp (fIxA (.ref k) (.str s) M) Q E = rdD M k (fun l => rdO (getD l (.str s)) fun d => Q d M) := by
  simp only [wp_eq, wpS_eq] at *
  first | exact D.w_ixAD | (apply D.w_ixAD <;> assumption)
@[simp ↓] theorem w_inT {x : MV} {l : List MV} {g : Bool → Bool} : wp (fInG g x (.tup l) M) Q E = ((flatM x && l.all flatM) = true ∧ Q (.bl (g (l.any fun y => eqF y x))) M) := by
  simp only [wp_eq, wpS_eq] at *
  first | exact D.w_inT | (apply D.w_inT <;> assumption)
@[simp ↓] theorem w_inAT {x : MV} {l : List MV} {g : Bool → Bool} : wp (fInGA g x (.tup l) M) Q E = ((flatM x && l.all flatM) = true ∧ Q (.bl (g (l.any fun y => eqF y x))) M) := by
  simp only [wp_eq, wpS_eq] at *
  first | exact D.w_inAT | (apply D.w_inAT <;> assumption)
@[simp ↓] theorem w_inL {x : MV} {k : Nat} {g : Bool → Bool} : wp (fInG g x (.ref k) M) Q E = rdL M k (fun l => (flatM x && l.all flatM) = true ∧ Q (.bl (g (l.any fun y => eqF y x))) M) := by
  simp only [wp_eq, wpS_eq] at *
  first | exact D.w_inL | (apply D.w_inL <;> assumption)
@[simp ↓] theorem w_inALD {x : MV} {k : Nat} {g : Bool → Bool} : wp (fInGA g x (.ref k) M) Q E = rdLD M k (fun l => (flatM x && l.all flatM) = true ∧ Q (.bl (g (l.any fun y => eqF y x))) M) (fun l => isKey x = true ∧ Q (.bl (g (getD l x).isSome)) M) := by
  simp only [wp_eq, wpS_eq] at *
  first | exact D.w_inALD | (apply D.w_inALD <;> assumption)
theorem w_inF {x y : MV} {g : Bool → Bool} {b : Bool} (h : inM M x y = some b) : wp (fInG g x y M) Q E = Q (.bl (g b)) M := by
  simp only [wp_eq, wpS_eq] at *
  first | exact D.w_inF | (apply D.w_inF <;> assumption)
theorem w_inAF {x : MV} {l : List MV} {g : Bool → Bool} {b : Bool} (h : inM M x (.tup l) = some b) : wp (fInGA g x (.tup l) M) Q E = Q (.bl (g b)) M := by
  simp only [wp_eq, wpS_eq] at *
  first | exact D.w_inAF | (apply D.w_inAF <;> assumption)
@[simp ↓] theorem w_inAS {c : Nat} {t : Tx} {g : Bool → Bool} : wp (fInGA g (.str [c]) (.str t) M) Q E = Q (.bl (g (decide (c ∈ t)))) M := by
  simp only [wp_eq, wpS_eq] at *
  first | exact D.w_inAS | (apply D.w_inAS <;> assumption)
theorem w_inAD {k : Nat} {x : MV} {l : List (MV × MV)} {g : Bool → Bool} (h : M[k]? = some (.dic l)) (hk : isKey x = true) : wp (fInGA g x (.ref k) M) Q E = Q (.bl (g (getD l x).isSome)) M := by
  simp only [wp_eq, wpS_eq] at *
  first | exact D.w_inAD | (apply D.w_inAD <;> assumption)
theorem w_inAL {k : Nat} {x : MV} {l : List MV} {g : Bool → Bool} {b : Bool} (h : M[k]? = some (.lst l)) (hb : inM M x (.ref k) = some b) : wp (fInGA g x (.ref k) M) Q E = Q (.bl (g b)) M := by
  simp only [wp_eq, wpS_eq] at *
  first | exact D.w_inAL | (apply D.w_inAL <;> assumption)
@[simp ↓] theorem w_isB {i j : Bool} {g : Bool → Bool} : wp (fIsG g (.bl i) (.bl j) M) Q E = Q (.bl (g (decide (i = j)))) M := by
  simp only [wp_eq, wpS_eq] at *
  first | exact D.w_isB | (apply D.w_isB <;> assumption)
@[simp ↓] theorem w_isNN {g : Bool → Bool} : wp (fIsG g .non .non M) Q E = Q (.bl (g true)) M := by
  simp only [wp_eq, wpS_eq] at *
  first | exact D.w_isNN | (apply D.w_isNN <;> assumption)
@[simp ↓] theorem w_isBN {i : Bool} {g : Bool → Bool} : wp (fIsG g (.bl i) .non M) Q E = Q (.bl (g false)) M := by
  simp only [wp_eq, wpS_eq] at *
  first | exact D.w_isBN | (apply D.w_isBN <;> assumption)
@[simp ↓] theorem w_isIN {i : Int} {g : Bool → Bool} : wp (fIsG g (.int i) .non M) Q E = Q (.bl (g false)) M := by
  simp only [wp_eq, wpS_eq] at *
  first | exact D.w_isIN | (apply D.w_isIN <;> assumption)
@[simp ↓] theorem w_isSN {s : Tx} {g : Bool → Bool} : wp (fIsG g (.str s) .non M) Q E = Q (.bl (g false)) M := by
  simp only [wp_eq, wpS_eq] at *
  first | exact D.w_isSN | (apply D.w_isSN <;> assumption)
@[simp ↓] theorem w_isTN {l : List MV} {g : Bool → Bool} : wp (fIsG g (.tup l) .non M) Q E = Q (.bl (g false)) M := by
  simp only [wp_eq, wpS_eq] at *
  first | exact D.w_isTN | (apply D.w_isTN <;> assumption)
@[simp ↓] theorem w_isRN {k : Nat} {g : Bool → Bool} : wp (fIsG g (.ref k) .non M) Q E = Q (.bl (g false)) M := by
  simp only [wp_eq, wpS_eq] at *
  first | exact D.w_isRN | (apply D.w_isRN <;> assumption)
@[simp ↓] theorem w_chain {f g : MV → MV → Hm → R MV} {cc : Fe} : wp (eChain f g a b cc env M) Q E = wp (a env M) (fun x M1 => wp (b env M1) (fun y M2 => wp (f x y M2) (fun z M3 => match z with | .bl k => ifB (k) (wp (cc env M3) (fun w M4 => wp (g y w M4) Q E) E) (Q (.bl false) M3) | _ => False) E) E) E := by
  simp only [wp_eq, wpS_eq, ifB_eq] at *
  first | exact D.w_chain | exact (D.w_chain).trans (by simp only [ite_and]) | (rw [D.w_chain]; simp only [ite_and]; done) | (apply D.w_chain <;> assumption)
@[simp ↓] theorem w_extT {k : Nat} {t : List MV} : wp (fExtend (.ref k) [.tup t] M) Q E = rdL M k (fun s => ((s.length + t.length ≤ SL) ∧ (Q .non (M.set k (.lst (s ++ t)))))) := by
  simp only [wp_eq, wpS_eq, ifB_eq] at *
  first | exact D.w_extT | exact (D.w_extT).trans (by simp only [ite_and]) | (rw [D.w_extT]; simp only [ite_and]; done) | (apply D.w_extT <;> assumption)
@[simp ↓] theorem w_extL {k j : Nat} : wp (fExtend (.ref k) [.ref j] M) Q E = rdL M k (fun s => rdL M j (fun t => ((s.length + t.length ≤ SL) ∧ (Q .non (M.set k (.lst (s ++ t))))))) := by
  simp only [wp_eq, wpS_eq, ifB_eq] at *
  first | exact D.w_extL | exact (D.w_extL).trans (by simp only [ite_and]) | (rw [D.w_extL]; simp only [ite_and]; done) | (apply D.w_extL <;> assumption)
@[simp ↓] theorem w_insert {k : Nat} {i : Int} {y : MV} : wp (fInsert (.ref k) [.int i, y] M) Q E = rdL M k (fun s => ((decide (s.length < SL) && decide (0 ≤ i) && decide (i.natAbs < 1073741824)) ∧ (Q .non (M.set k (.lst (s.take i.toNat ++ [y] ++ s.drop i.toNat)))))) := by
  simp only [wp_eq, wpS_eq, ifB_eq] at *
  first | exact D.w_insert | exact (D.w_insert).trans (by simp only [ite_and]) | (rw [D.w_insert]; simp only [ite_and]; done) | (apply D.w_insert <;> assumption)
@[simp ↓] theorem w_dict {k : Nat} : wp (fDict [.ref k] M) Q E = rdD M k (fun l => Q (.ref M.length) (M ++ [.dic l])) := by
  simp only [wp_eq, wpS_eq] at *
  first | exact D.w_dict | (apply D.w_dict <;> assumption)
@[simp ↓] theorem w_sorted {k : Nat} : wp (fSorted [.ref k] M) Q E = rdLD M k (fun l => rdO (textsOf l) fun ts => ((ts.length < 64) ∧ (Q (.ref M.length) (M ++ [.lst ((sortT ts).map MV.str)]))))
    (fun l => rdO (keysOf l) fun ts => ((ts.length < 64) ∧ (Q (.ref M.length) (M ++ [.lst ((sortT ts).map MV.str)])))) := by
  simp only [wp_eq, wpS_eq, ifB_eq] at *
  first | exact D.w_sorted | exact (D.w_sorted).trans (by simp only [ite_and]) | (rw [D.w_sorted]; simp only [ite_and]; done) | (apply D.w_sorted <;> assumption)
@[simp ↓] theorem w_get2 {cc : Fe} : wp (eGet2 a b cc env M) Q E = wp (a env M) (fun x M1 => match x with
  | .ref k => rdD M1 k fun _ => wp (b env M1) (fun y M2 => wp (cc env M2) (fun z M3 => rdD M3 k (fun l => ((isKey y) ∧ (Q ((getD l y).getD z) M3)))) E) E
  | _ => False) E := by
  simp only [wp_eq, wpS_eq, ifB_eq] at *
  first | exact D.w_get2 | exact (D.w_get2).trans (by simp only [ite_and]) | (rw [D.w_get2]; simp only [ite_and]; done) | (apply D.w_get2 <;> assumption)
theorem w_isi {x : MV} {c t : String} {k : Bool} (ht : tyN M x = some t) (hk : L2.kitB t c = some k) : wp (fIsi c [x] M) Q E = Q (.bl k) M := by
  simp only [wp_eq, wpS_eq] at *
  first | exact D.w_isi | (apply D.w_isi <;> assumption)
@[simp ↓] theorem w_isi_NoneType_tuple : wp (fIsi "tuple" [.non] M) Q E = Q (.bl false) M := by
  simp only [wp_eq, wpS_eq] at *
  first | exact D.w_isi_NoneType_tuple | (apply D.w_isi_NoneType_tuple <;> assumption)
@[simp ↓] theorem w_isi_NoneType_str : wp (fIsi "str" [.non] M) Q E = Q (.bl false) M := by
  simp only [wp_eq, wpS_eq] at *
  first | exact D.w_isi_NoneType_str | (apply D.w_isi_NoneType_str <;> assumption)
@[simp ↓] theorem w_isi_NoneType_int : wp (fIsi "int" [.non] M) Q E = Q (.bl false) M := by
  simp only [wp_eq, wpS_eq] at *
  first | exact D.w_isi_NoneType_int | (apply D.w_isi_NoneType_int <;> assumption)
@[simp ↓] theorem w_isi_NoneType_bool : wp (fIsi "bool" [.non] M) Q E = Q (.bl false) M := by
  simp only [wp_eq, wpS_eq] at *
  first | exact D.w_isi_NoneType_bool | (apply D.w_isi_NoneType_bool <;> assumption)
@[simp ↓] theorem w_isi_NoneType_list : wp (fIsi "list" [.non] M) Q E = Q (.bl false) M := by
  simp only [wp_eq, wpS_eq] at *
  first | exact D.w_isi_NoneType_list | (apply D.w_isi_NoneType_list <;> assumption)
@[simp ↓] theorem w_isi_NoneType_dict : wp (fIsi "dict" [.non] M) Q E = Q (.bl false) M := by
  simp only [wp_eq, wpS_eq] at *
  first | exact D.w_isi_NoneType_dict | (apply D.w_isi_NoneType_dict <;> assumption)
@[simp ↓] theorem w_isi_bool_tuple {b : Bool} : wp (fIsi "tuple" [(.bl b)] M) Q E = Q (.bl false) M := by
  simp only [wp_eq, wpS_eq] at *
  first | exact D.w_isi_bool_tuple | (apply D.w_isi_bool_tuple <;> assumption)
@[simp ↓] theorem w_isi_bool_str {b : Bool} : wp (fIsi "str" [(.bl b)] M) Q E = Q (.bl false) M := by
  simp only [wp_eq, wpS_eq] at *
  first | exact D.w_isi_bool_str | (apply D.w_isi_bool_str <;> assumption)
@[simp ↓] theorem w_isi_bool_int {b : Bool} : wp (fIsi "int" [(.bl b)] M) Q E = Q (.bl true) M := by
  simp only [wp_eq, wpS_eq] at *
  first | exact D.w_isi_bool_int | (apply D.w_isi_bool_int <;> assumption)
@[simp ↓] theorem w_isi_bool_bool {b : Bool} : wp (fIsi "bool" [(.bl b)] M) Q E = Q (.bl true) M := by
  simp only [wp_eq, wpS_eq] at *
  first | exact D.w_isi_bool_bool | (apply D.w_isi_bool_bool <;> assumption)
@[simp ↓] theorem w_isi_bool_list {b : Bool} : wp (fIsi "list" [(.bl b)] M) Q E = Q (.bl false) M := by
  simp only [wp_eq, wpS_eq] at *
  first | exact D.w_isi_bool_list | (apply D.w_isi_bool_list <;> assumption)
@[simp ↓] theorem w_isi_bool_dict {b : Bool} : wp (fIsi "dict" [(.bl b)] M) Q E = Q (.bl false) M := by
  simp only [wp_eq, wpS_eq] at *
  first | exact D.w_isi_bool_dict | (apply D.w_isi_bool_dict <;> assumption)
@[simp ↓] theorem w_isi_int_tuple {i : Int} : wp (fIsi "tuple" [(.int i)] M) Q E = Q (.bl false) M := by
  simp only [wp_eq, wpS_eq] at *
  first | exact D.w_isi_int_tuple | (apply D.w_isi_int_tuple <;> assumption)
@[simp ↓] theorem w_isi_int_str {i : Int} : wp (fIsi "str" [(.int i)] M) Q E = Q (.bl false) M := by
  simp only [wp_eq, wpS_eq] at *
  first | exact D.w_isi_int_str | (apply D.w_isi_int_str <;> assumption)
@[simp ↓] theorem w_isi_int_int {i : Int} : wp (fIsi "int" [(.int i)] M) Q E = Q (.bl true) M := by
  simp only [wp_eq, wpS_eq] at *
  first | exact D.w_isi_int_int | (apply D.w_isi_int_int <;> assumption)
@[simp ↓] theorem w_isi_int_bool {i : Int} : wp (fIsi "bool" [(.int i)] M) Q E = Q (.bl false) M := by
  simp only [wp_eq, wpS_eq] at *
  first | exact D.w_isi_int_bool | (apply D.w_isi_int_bool <;> assumption)
@[simp ↓] theorem w_isi_int_list {i : Int} : wp (fIsi "list" [(.int i)] M) Q E = Q (.bl false) M := by
  simp only [wp_eq, wpS_eq] at *
  first | exact D.w_isi_int_list | (apply D.w_isi_int_list <;> assumption)
@[simp ↓] theorem w_isi_int_dict {i : Int} : wp (fIsi "dict" [(.int i)] M) Q E = Q (.bl false) M := by
  simp only [wp_eq, wpS_eq] at *
  first | exact D.w_isi_int_dict | (apply D.w_isi_int_dict <;> assumption)
@[simp ↓] theorem w_isi_str_tuple {s : Tx} : wp (fIsi "tuple" [(.str s)] M) Q E = Q (.bl false) M := by
  simp only [wp_eq, wpS_eq] at *
  first | exact D.w_isi_str_tuple | (apply D.w_isi_str_tuple <;> assumption)
@[simp ↓] theorem w_isi_str_str {s : Tx} : wp (fIsi "str" [(.str s)] M) Q E = Q (.bl true) M := by
  simp only [wp_eq, wpS_eq] at *
  first | exact D.w_isi_str_str | (apply D.w_isi_str_str <;> assumption)
@[simp ↓] theorem w_isi_str_int {s : Tx} : wp (fIsi "int" [(.str s)] M) Q E = Q (.bl false) M := by
  simp only [wp_eq, wpS_eq] at *
  first | exact D.w_isi_str_int | (apply D.w_isi_str_int <;> assumption)
@[simp ↓] theorem w_isi_str_bool {s : Tx} : wp (fIsi "bool" [(.str s)] M) Q E = Q (.bl false) M := by
  simp only [wp_eq, wpS_eq] at *
  first | exact D.w_isi_str_bool | (apply D.w_isi_str_bool <;> assumption)
@[simp ↓] theorem w_isi_str_list {s : Tx} : wp (fIsi "list" [(.str s)] M) Q E = Q (.bl false) M := by
  simp only [wp_eq, wpS_eq] at *
  first | exact D.w_isi_str_list | (apply D.w_isi_str_list <;> assumption)
@[simp ↓] theorem w_isi_str_dict {s : Tx} : wp (fIsi "dict" [(.str s)] M) Q E = Q (.bl false) M := by
  simp only [wp_eq, wpS_eq] at *
  first | exact D.w_isi_str_dict | (apply D.w_isi_str_dict <;> assumption)
@[simp ↓] theorem w_isi_tuple_tuple {l : List MV} : wp (fIsi "tuple" [(.tup l)] M) Q E = Q (.bl true) M := by
  simp only [wp_eq, wpS_eq] at *
  first | exact D.w_isi_tuple_tuple | (apply D.w_isi_tuple_tuple <;> assumption)
@[simp ↓] theorem w_isi_tuple_str {l : List MV} : wp (fIsi "str" [(.tup l)] M) Q E = Q (.bl false) M := by
  simp only [wp_eq, wpS_eq] at *
  first | exact D.w_isi_tuple_str | (apply D.w_isi_tuple_str <;> assumption)
@[simp ↓] theorem w_isi_tuple_int {l : List MV} : wp (fIsi "int" [(.tup l)] M) Q E = Q (.bl false) M := by
  simp only [wp_eq, wpS_eq] at *
  first | exact D.w_isi_tuple_int | (apply D.w_isi_tuple_int <;> assumption)
@[simp ↓] theorem w_isi_tuple_bool {l : List MV} : wp (fIsi "bool" [(.tup l)] M) Q E = Q (.bl false) M := by
  simp only [wp_eq, wpS_eq] at *
  first | exact D.w_isi_tuple_bool | (apply D.w_isi_tuple_bool <;> assumption)
@[simp ↓] theorem w_isi_tuple_list {l : List MV} : wp (fIsi "list" [(.tup l)] M) Q E = Q (.bl false) M := by
  simp only [wp_eq, wpS_eq] at *
  first | exact D.w_isi_tuple_list | (apply D.w_isi_tuple_list <;> assumption)
@[simp ↓] theorem w_isi_tuple_dict {l : List MV} : wp (fIsi "dict" [(.tup l)] M) Q E = Q (.bl false) M := by
  simp only [wp_eq, wpS_eq] at *
  first | exact D.w_isi_tuple_dict | (apply D.w_isi_tuple_dict <;> assumption)
end

/-! ### targets -/
section
variable {Q : Env → Hm → Prop} {E : MX → Hm → Prop} {M : Hm} {env : Env}
@[simp ↓] theorem w_gN {i : Nat} {d : MV} : wp (gN i d env M) Q E = Q (env.set i (some d)) M := by
  simp only [wp_eq, wpS_eq] at *
  first | exact D.w_gN | (apply D.w_gN <;> assumption)
@[simp ↓] theorem w_gT {n : Nat} {r : Ftgs} {l : List MV} : wp (gT n r (.tup l) env M) Q E = ((l.length = n) ∧ (wp (r l env M) Q E)) := by
  simp only [wp_eq, wpS_eq, ifB_eq] at *
  first | exact D.w_gT | exact (D.w_gT).trans (by simp only [ite_and]) | (rw [D.w_gT]; simp only [ite_and]; done) | (apply D.w_gT <;> assumption)
@[simp ↓] theorem w_gsNil : wp (gsNil [] env M) Q E = Q env M := by
  simp only [wp_eq, wpS_eq] at *
  first | exact D.w_gsNil | (apply D.w_gsNil <;> assumption)
@[simp ↓] theorem w_gsCons {g : Ftg} {r : Ftgs} {d : MV} {ds : List MV} : wp (gsCons g r (d :: ds) env M) Q E = wp (g d env M) (fun e1 M1 => wp (r ds e1 M1) Q E) E := by
  simp only [wp_eq, wpS_eq] at *
  first | exact D.w_gsCons | (apply D.w_gsCons <;> assumption)
@[simp ↓] theorem w_gIx {f : MV → MV → MV → Hm → R MV} {a b : Fe} {d : MV} : wp (gIx f a b d env M) Q E = wp (a env M) (fun x M1 => wp (b env M1) (fun y M2 => wp (f x y d M2) (fun _ M3 => Q env M3) (fun _ _ => False)) (fun _ _ => False)) (fun _ _ => False) := by
  simp only [wp_eq, wpS_eq] at *
  first | exact D.w_gIx | (apply D.w_gIx <;> assumption)
section
variable {Q : MV → Hm → Prop}
@[simp ↓] theorem w_setL {k : Nat} {i : Int} {d : MV} : wp (fSetL (.ref k) (.int i) d M) Q E = rdL M k (fun l => rdX l.length i fun j => Q .non (M.set k (.lst (l.set j d)))) := by
  simp only [wp_eq, wpS_eq] at *
  first | exact D.w_setL | (apply D.w_setL <;> assumption)
end
end

/-! ### statements -/
section
variable {Q : O → Env → Hm → Prop} {E : MX → Env → Hm → Prop} {M : Hm} {env : Env} {a b : Fs} {e : Fe} {c : Ft}
@[simp ↓] theorem wS_ok {o : O} : wpS (.ok o env M) Q E = Q o env M := by
  simp only [wp_eq, wpS_eq] at *
  first | exact D.wS_ok | (apply D.wS_ok <;> assumption)
@[simp ↓] theorem wS_exc {x : MX} : wpS (.exc x env M) Q E = E x env M := by
  simp only [wp_eq, wpS_eq] at *
  first | exact D.wS_exc | (apply D.wS_exc <;> assumption)
@[simp ↓] theorem wS_bad : wpS .bad Q E = False := by
  simp only [wp_eq, wpS_eq] at *
  first | exact D.wS_bad | (apply D.wS_bad <;> assumption)
theorem wS_ite {c : Prop} [Decidable c] {a b : RS} : wpS (if c then a else b) Q E = if c then wpS a Q E else wpS b Q E := by
  simp only [wp_eq, wpS_eq]
  exact D.wS_ite
@[simp ↓] theorem wS_st {α : Type} {r : R α} {f : α → Hm → RS} : wpS (r.st env f) Q E = wp r (fun a M1 => wpS (f a M1) Q E) (fun x M1 => E x env M1) := by
  simp only [wp_eq, wpS_eq] at *
  first | exact D.wS_st | (apply D.wS_st <;> assumption)
@[simp ↓] theorem wS_nx : wpS (sNx env M) Q E = Q .nx env M := by
  simp only [wp_eq, wpS_eq] at *
  first | exact D.wS_nx | (apply D.wS_nx <;> assumption)
@[simp ↓] theorem wS_brk : wpS (sBrk env M) Q E = Q .brk env M := by
  simp only [wp_eq, wpS_eq] at *
  first | exact D.wS_brk | (apply D.wS_brk <;> assumption)
@[simp ↓] theorem wS_cnt : wpS (sCnt env M) Q E = Q .cnt env M := by
  simp only [wp_eq, wpS_eq] at *
  first | exact D.wS_cnt | (apply D.wS_cnt <;> assumption)
@[simp ↓] theorem wS_seq : wpS (sSeq a b env M) Q E = wpS (a env M) (fun o e1 M1 => match o with | .nx => wpS (b e1 M1) Q E | o => Q o e1 M1) E := by
  simp only [wp_eq, wpS_eq] at *
  first | exact D.wS_seq | (apply D.wS_seq <;> assumption)
@[simp ↓] theorem wS_set {i : Nat} : wpS (sSet i e env M) Q E = wp (e env M) (fun d M1 => Q .nx (env.set i (some d)) M1) (fun x M1 => E x env M1) := by
  simp only [wp_eq, wpS_eq] at *
  first | exact D.wS_set | (apply D.wS_set <;> assumption)
@[simp ↓] theorem wS_asg {g : Ftg} : wpS (sAsg g e env M) Q E = wp (e env M) (fun d M1 => wp (g d env M1) (fun e1 M2 => Q .nx e1 M2) (fun x M2 => E x env M2)) (fun x M1 => E x env M1) := by
  simp only [wp_eq, wpS_eq] at *
  first | exact D.wS_asg | (apply D.wS_asg <;> assumption)
@[simp ↓] theorem wS_aug {f : MV → MV → Hm → R MV} {i : Nat} : wpS (sAug f i e env M) Q E = rdE env i (fun x => wp (e env M) (fun y M1 => wp (f x y M1) (fun z M2 => Q .nx (env.set i (some z)) M2) (fun x M2 => E x env M2)) (fun x M1 => E x env M1)) := by
  simp only [wp_eq, wpS_eq] at *
  first | exact D.wS_aug | (apply D.wS_aug <;> assumption)
@[simp ↓] theorem wS_ex : wpS (sEx e env M) Q E = wp (e env M) (fun _ M1 => Q .nx env M1) (fun x M1 => E x env M1) := by
  simp only [wp_eq, wpS_eq] at *
  first | exact D.wS_ex | (apply D.wS_ex <;> assumption)
@[simp ↓] theorem wS_ret : wpS (sRet e env M) Q E = wp (e env M) (fun d M1 => Q (.ret d) env M1) (fun x M1 => E x env M1) := by
  simp only [wp_eq, wpS_eq] at *
  first | exact D.wS_ret | (apply D.wS_ret <;> assumption)
@[simp ↓] theorem wS_retN : wpS (sRetN env M) Q E = Q (.ret .non) env M := by
  simp only [wp_eq, wpS_eq] at *
  first | exact D.wS_retN | (apply D.wS_retN <;> assumption)
@[simp ↓] theorem wS_if : wpS (sIf c a b env M) Q E = wp (c env M) (fun k M1 => ifB (k) (wpS (a env M1) Q E) (wpS (b env M1) Q E)) (fun x M1 => E x env M1) := by
  simp only [wp_eq, wpS_eq, ifB_eq] at *
  first | exact D.wS_if | exact (D.wS_if).trans (by simp only [ite_and]) | (rw [D.wS_if]; simp only [ite_and]; done) | (apply D.wS_if <;> assumption)
@[simp ↓] theorem wS_putA {x y v : Fe} : wpS (sPutA x y v env M) Q E = wp (v env M) (fun z M1 => wp (x env M1) (fun d M2 => wp (y env M2) (fun k M3 => match d with
  | .ref j => rdD M3 j fun l => ((isKey k && decide (l.length < SL)) ∧ (Q .nx env (M3.set j (.dic (putD l k z))))) | _ => False) (fun x M => E x env M)) (fun x M => E x env M)) (fun x M => E x env M) := by
  simp only [wp_eq, wpS_eq, ifB_eq] at *
  first | exact D.wS_putA | exact (D.wS_putA).trans (by simp only [ite_and]) | (rw [D.wS_putA]; simp only [ite_and]; done) | (apply D.wS_putA <;> assumption)
@[simp ↓] theorem wS_raise {c : Nat} : wpS (sRaiseC c env M) Q E = E ⟨c, none⟩ env M := by
  simp only [wp_eq, wpS_eq] at *
  first | exact D.wS_raise | (apply D.wS_raise <;> assumption)
@[simp ↓] theorem wS_while : wpS (sWhl c b env M) Q E = wpS (whlGo c b WL env M) Q E := by
  simp only [wp_eq, wpS_eq] at *
  first | exact D.wS_while | (apply D.wS_while <;> assumption)
@[simp ↓] theorem wS_for {it : Fi} {g : Ftg} : wpS (sFor it g b env M) Q E = wp (it env M) (fun p M1 => wpS (forGo p.1 g b p.2 0 env M1) Q E) (fun x M1 => E x env M1) := by
  simp only [wp_eq, wpS_eq] at *
  first | exact D.wS_for | (apply D.wS_for <;> assumption)
theorem wS_try {sub : Nat → Option Bool} {i : Nat} {su : MX → Fs} : wpS (sTryAs a sub i su env M) Q E = wpS (a env M) Q (fun x e1 M1 => match sub x.cls with
    | some true => i < e1.length ∧ wpS (su x (e1.set i none) M1) (fun o e2 M2 => Q o (e2.set i none) M2) (fun _ _ _ => False)
    | some false => E x e1 M1
    | none => False) := by
  simp only [wpS_eq]
  rw [D.wS_try]
  simp only [ite_and]
theorem wS_whl {Q : O → Env → Hm → Prop} {E : MX → Env → Hm → Prop} (Inv : Nat → Env → Hm → Prop)
    (step : ∀ k env M, Inv k env M → wp (c env M) (fun t M1 => ifB (t) (wpS (b env M1) (fun o e2 M2 => match o with
      | .nx => ∃ k', k' < k ∧ Inv k' e2 M2
      | .cnt => ∃ k', k' < k ∧ Inv k' e2 M2
      | .brk => Q .nx e2 M2
      | .ret d => Q (.ret d) e2 M2) E) (Q .nx env M1)) (fun x M1 => E x env M1)) :
    ∀ (n k : Nat) env M, k < n → Inv k env M → wpS (whlGo c b n env M) Q E := by
  simp only [wp_eq, wpS_eq, ifB_eq] at *
  first | exact D.wS_whl | exact (D.wS_whl).trans (by simp only [ite_and]) | (rw [D.wS_whl]; simp only [ite_and]; done) | (apply D.wS_whl <;> assumption)
theorem wS_for0 {Q : O → Env → Hm → Prop} {E : MX → Env → Hm → Prop} {g : Ftg} {ni : Ni} (Inv : Nat → Env → Hm → Prop) (N : Nat)
    (hn : ∀ k env M, Inv k env M → k ≤ N → ∃ o, ni M k = some o ∧ (o = none ↔ k = N))
    (step : ∀ k d env M, k < N → ni M k = some (some d) → Inv k env M → wp (g d env M) (fun e1 M1 => wpS (b e1 M1) (fun o e2 M2 => match o with
      | .nx => Inv (k + 1) e2 M2
      | .cnt => Inv (k + 1) e2 M2
      | .brk => Q .nx e2 M2
      | .ret d => Q (.ret d) e2 M2) E) (fun x M1 => E x env M1))
    (hend : ∀ env M, Inv N env M → Q .nx env M) :
    ∀ (n k : Nat) env M, k + n = N + 1 → k ≤ N → Inv k env M → wpS (forGo ni g b n k env M) Q E := by
  simp only [wp_eq, wpS_eq] at *
  first | exact D.wS_for0 | (apply D.wS_for0 <;> assumption)
theorem wS_forT {Q : O → Env → Hm → Prop} {E : MX → Env → Hm → Prop} {g : Ftg} {l : List MV} (Inv : Nat → Env → Hm → Prop) (h0 : Inv 0 env M)
    (step : ∀ k d env M, l[k]? = some d → Inv k env M → wp (g d env M) (fun e1 M1 => wpS (b e1 M1) (fun o e2 M2 => match o with
      | .nx => Inv (k + 1) e2 M2
      | .cnt => Inv (k + 1) e2 M2
      | .brk => Q .nx e2 M2
      | .ret d => Q (.ret d) e2 M2) E) (fun x M1 => E x env M1))
    (hend : ∀ env M, Inv l.length env M → Q .nx env M) : wpS (forGo (nT l) g b (l.length + 1) 0 env M) Q E := by
  simp only [wp_eq, wpS_eq] at *
  first | exact D.wS_forT | (apply D.wS_forT <;> assumption)
theorem wS_forR {Q : O → Env → Hm → Prop} {E : MX → Env → Hm → Prop} {g : Ftg} {lo c : Int} {n : Nat} (Inv : Nat → Env → Hm → Prop) (h0 : Inv 0 env M)
    (step : ∀ k env M, k < n → Inv k env M → wp (g (.int (lo + k * c)) env M) (fun e1 M1 => wpS (b e1 M1) (fun o e2 M2 => match o with
      | .nx => Inv (k + 1) e2 M2
      | .cnt => Inv (k + 1) e2 M2
      | .brk => Q .nx e2 M2
      | .ret d => Q (.ret d) e2 M2) E) (fun x M1 => E x env M1))
    (hend : ∀ env M, Inv n env M → Q .nx env M) : wpS (forGo (nR lo c n) g b (n + 1) 0 env M) Q E := by
  simp only [wp_eq, wpS_eq] at *
  first | exact D.wS_forR | (apply D.wS_forR <;> assumption)
end
/-! ### what is walked -/
section
variable {Q : Ni × Nat → Hm → Prop} {E : MX → Hm → Prop} {M : Hm} {env : Env} {a : Fe} {t : Fa}
@[simp ↓] theorem w_iRg {f : List MV → Hm → R (Ni × Nat)} : wp (iRg f t env M) Q E = wp (t env M) (fun xs M1 => wp (f xs M1) Q E) E := by
  simp only [wp_eq, wpS_eq] at *
  first | exact D.w_iRg | (apply D.w_iRg <;> assumption)
@[simp ↓] theorem w_rg1 {j : Int} : wp (rg1 [.int j] M) Q E = ((in62 j) ∧ (Q (nR 0 1 j.toNat, j.toNat + 1) M)) := by
  simp only [wp_eq, wpS_eq, ifB_eq] at *
  first | exact D.w_rg1 | exact (D.w_rg1).trans (by simp only [ite_and]) | (rw [D.w_rg1]; simp only [ite_and]; done) | (apply D.w_rg1 <;> assumption)
@[simp ↓] theorem w_rg2 {i j : Int} : wp (rg2 [.int i, .int j] M) Q E = ((in62 i && in62 j) ∧ (Q (nR i 1 (j - i).toNat, (j - i).toNat + 1) M)) := by
  simp only [wp_eq, wpS_eq, ifB_eq] at *
  first | exact D.w_rg2 | exact (D.w_rg2).trans (by simp only [ite_and]) | (rw [D.w_rg2]; simp only [ite_and]; done) | (apply D.w_rg2 <;> assumption)
@[simp ↓] theorem w_iA : wp (iA a env M) Q E = wp (a env M) (fun x M1 => rdIt M1 x fun p => Q p M1) E := by
  simp only [wp_eq, wpS_eq] at *
  first | exact D.w_iA | (apply D.w_iA <;> assumption)
end
/-! ### comprehensions -/
section
variable {Q : MV → Hm → Prop} {E : MX → Hm → Prop} {M : Hm} {env : Env} {e : Fe} {c : Ft} {g : Ftg} {it : Fi} {vs : List Nat}
@[simp ↓] theorem w_lc : wp (eLc it g c e vs env M) Q E = wp (it env M) (fun p M1 => wp (lcGo p.1 g c e (wipeE env vs) p.2 0 [] M1) (fun l M2 => Q (.ref M2.length) (M2 ++ [.lst l])) E) E := by
  simp only [wp_eq, wpS_eq] at *
  first | exact D.w_lc | (apply D.w_lc <;> assumption)
theorem w_lc0 {Ql : List MV → Hm → Prop} {ni : Ni} (Inv : Nat → List MV → Hm → Prop) (N : Nat)
    (hn : ∀ k acc M, Inv k acc M → k ≤ N → ∃ o, ni M k = some o ∧ (o = none ↔ k = N))
    (step : ∀ k d acc M, k < N → ni M k = some (some d) → Inv k acc M → wp (g d env M) (fun e1 M1 => wp (c e1 M1) (fun t M2 => ifB (t) (wp (e e1 M2) (fun y M3 => acc.length < SL ∧ Inv (k + 1) (acc ++ [y]) M3) (fun _ _ => False)) (Inv (k + 1) acc M2)) (fun _ _ => False)) (fun _ _ => False))
    (hend : ∀ acc M, Inv N acc M → Ql acc M) :
    ∀ (n k : Nat) acc M, k + n = N + 1 → k ≤ N → Inv k acc M → wp (lcGo ni g c e env n k acc M) Ql E := by
  simp only [wp_eq, wpS_eq, ifB_eq] at *
  first | exact D.w_lc0 | exact (D.w_lc0).trans (by simp only [ite_and]) | (rw [D.w_lc0]; simp only [ite_and]; done) | (apply D.w_lc0 <;> assumption)
theorem w_lcT {Ql : List MV → Hm → Prop} {l : List MV} (Inv : Nat → List MV → Hm → Prop) (h0 : Inv 0 [] M)
    (step : ∀ k d acc M, l[k]? = some d → Inv k acc M → wp (g d env M) (fun e1 M1 => wp (c e1 M1) (fun t M2 => ifB (t) (wp (e e1 M2) (fun y M3 => acc.length < SL ∧ Inv (k + 1) (acc ++ [y]) M3) (fun _ _ => False)) (Inv (k + 1) acc M2)) (fun _ _ => False)) (fun _ _ => False))
    (hend : ∀ acc M, Inv l.length acc M → Ql acc M) : wp (lcGo (nT l) g c e env (l.length + 1) 0 [] M) Ql E := by
  simp only [wp_eq, wpS_eq, ifB_eq] at *
  first | exact D.w_lcT | exact (D.w_lcT).trans (by simp only [ite_and]) | (rw [D.w_lcT]; simp only [ite_and]; done) | (apply D.w_lcT <;> assumption)
theorem w_lcR {Ql : List MV → Hm → Prop} {lo cc : Int} {n : Nat} (Inv : Nat → List MV → Hm → Prop) (h0 : Inv 0 [] M)
    (step : ∀ k acc M, k < n → Inv k acc M → wp (g (.int (lo + k * cc)) env M) (fun e1 M1 => wp (c e1 M1) (fun t M2 => ifB (t) (wp (e e1 M2) (fun y M3 => acc.length < SL ∧ Inv (k + 1) (acc ++ [y]) M3) (fun _ _ => False)) (Inv (k + 1) acc M2)) (fun _ _ => False)) (fun _ _ => False))
    (hend : ∀ acc M, Inv n acc M → Ql acc M) : wp (lcGo (nR lo cc n) g c e env (n + 1) 0 [] M) Ql E := by
  simp only [wp_eq, wpS_eq, ifB_eq] at *
  first | exact D.w_lcR | exact (D.w_lcR).trans (by simp only [ite_and]) | (rw [D.w_lcR]; simp only [ite_and]; done) | (apply D.w_lcR <;> assumption)
end
/-! ### defs -/
theorem w_run {tab : Nat → Option Df} {n f : Nat} {ds : List MV} {M : Hm} {Q : MV → Hm → Prop} {E : MX → Hm → Prop} {d : Df} (h : tab f = some d) (hl : ds.length = d.np)
    (hb : wpS (d.bd (run tab n) (ds.map some ++ List.replicate (d.ns - d.np) none) M) (fun o _ M1 => match o with
      | .nx => gcQ M M1 .non Q
      | .ret v => gcQ M M1 v Q
      | _ => False) (fun x _ M1 => gcE M M1 x E)) : wp (run tab (n + 1) f ds M) Q E := by
  simp only [wp_eq, wpS_eq] at *
  first | exact D.w_run | (apply D.w_run <;> assumption)
/-! ### the heap grows -/
theorem wS_cut {Q : O → Env → Hm → Prop} {E : MX → Env → Hm → Prop} {M : Hm} {env : Env} {a b : Fs} (P : Env → Hm → Prop) (h1 : wpS (a env M) (fun o e1 M1 => match o with | .nx => P e1 M1 | o => Q o e1 M1) E)
    (h2 : ∀ e1 M1, P e1 M1 → wpS (b e1 M1) Q E) : wpS (sSeq a b env M) Q E := by
  simp only [wp_eq, wpS_eq] at *
  first | exact D.wS_cut | (apply D.wS_cut <;> assumption)
/-! ### limits -/
end Mi
set_option maxRecDepth 100000
/-! Digits and texts. -/
namespace Mi
open PySem PySem.NumText TL L2 PyProof.Rows
theorem snocRec {α : Type} {m : List α → Prop} (h0 : m []) (h1 : ∀ l x, m l → m (l ++ [x])) : ∀ l, m l := fun l => by
  have key : ∀ r : List α, m r.reverse := by
    intro r
    induction r with
    | nil => exact h0
    | cons x r ih => rw [List.reverse_cons]; exact h1 _ _ ih
  have := key l.reverse
  rwa [List.reverse_reverse] at this
theorem dv_snoc (cs : Tx) (c : Nat) : digitsVal (cs ++ [c]) = digitsVal cs * 10 + (c - 48) := digitsVal_snoc cs c
theorem dv_app (a : Tx) : ∀ b : Tx, digitsVal (a ++ b) = digitsVal a * 10 ^ b.length + digitsVal b := by
  intro b
  induction b using snocRec with
  | h0 => simp [digitsVal]
  | h1 b c ih =>
    rw [← List.append_assoc, dv_snoc, dv_snoc, ih, List.length_append, List.length_singleton, Nat.pow_succ, Nat.add_mul]
    simp only [Nat.mul_assoc, Nat.add_assoc]
theorem numL_head : ∀ n : Nat, 1 ≤ n → ∃ c r, numL n = c :: r ∧ 49 ≤ c := by
  intro n
  induction n using Nat.strongRecOn with
  | ind n ih =>
    intro h
    rcases Nat.lt_or_ge n 10 with z | z
    · exact ⟨48 + n, [], numL_lt z, by omega⟩
    · obtain ⟨c, r, e, hc⟩ := ih (n / 10) (by omega) (by omega)
      exact ⟨c, r ++ [48 + n % 10], by rw [numL_step z, e]; rfl, hc⟩
/-- digits without needless zeros in front are a number's -/
theorem numL_unique : ∀ cs : Tx, AllDigits cs → (∃ c r, cs = c :: r ∧ (49 ≤ c ∨ r = [])) → numL (digitsVal cs) = cs := by
  intro cs
  induction cs using snocRec with
  | h0 => intro _ ⟨c, r, e, _⟩; cases e
  | h1 b c ih =>
    intro hd ⟨c0, r0, e, h0⟩
    have hc : 48 ≤ c ∧ c ≤ 57 := hd c (by simp)
    rw [dv_snoc]
    cases b with
    | nil =>
      simp only [List.nil_append] at e
      cases e
      have : digitsVal [] = 0 := rfl
      rw [List.nil_append, this, numL_lt (by omega)]
      congr 1
      omega
    | cons b0 b =>
      have e1 : b0 = c0 := by simp at e; exact e.1
      have hb : AllDigits (b0 :: b) := fun d hd' => hd d (List.mem_append_left _ hd')
      have h49 : 49 ≤ b0 := by
        rcases h0 with h0 | h0
        · rw [e1]; exact h0
        · subst h0
          simp at e
      have hv : 0 < digitsVal (b0 :: b) := digitsVal_pos h49
      have ih' := ih hb ⟨b0, b, rfl, .inl h49⟩
      rw [numL_step (by omega)]
      have e2 : (digitsVal (b0 :: b) * 10 + (c - 48)) / 10 = digitsVal (b0 :: b) := by omega
      have e3 : 48 + (digitsVal (b0 :: b) * 10 + (c - 48)) % 10 = c := by omega
      rw [e2, e3, ih']
/-- a number's digits, zeros in front up to k signs -/
def padN (k n : Nat) : Tx := List.replicate (k - (numL n).length) 48 ++ numL n
theorem dv_zeros : ∀ k : Nat, digitsVal (List.replicate k 48) = 0 := by
  intro k
  induction k with
  | zero => rfl
  | succ k ih =>
    rw [List.replicate_succ]
    exact ih
theorem dv_pad (k n : Nat) : digitsVal (padN k n) = n := by
  unfold padN
  rw [dv_app, dv_zeros, numL_val]
  omega
theorem digits_pad (k n : Nat) : AllDigits (padN k n) := fun c hc => by
  rcases List.mem_append.mp hc with h | h
  · have := (List.mem_replicate.mp h).2
    omega
  · exact numL_digits n c h
theorem len_pad {k n : Nat} (hk : 0 < k) (h : n < 10 ^ k) : (padN k n).length = k := by
  unfold padN
  have := numL_len hk h
  rw [List.length_append, List.length_replicate]
  omega
/-- a number's digits by chunks -/
theorem numL_chunk {k q r : Nat} (hk : 0 < k) (hr : r < 10 ^ k) (hq : 1 ≤ q) : numL (q * 10 ^ k + r) = numL q ++ padN k r := by
  have e : digitsVal (numL q ++ padN k r) = q * 10 ^ k + r := by
    rw [dv_app, numL_val, dv_pad, len_pad hk hr]
  rw [← e]
  refine numL_unique _ (fun c hc => ?_) ?_
  · rcases List.mem_append.mp hc with h | h
    · exact numL_digits q c h
    · exact digits_pad k r c h
  · obtain ⟨c, t, e, h⟩ := numL_head q hq
    exact ⟨c, t ++ padN k r, by rw [e]; rfl, .inl h⟩
theorem allDig_iff {s : Tx} : allDig s = true ↔ AllDigits s := by
  unfold allDig AllDigits
  simp [List.all_eq_true]
theorem numL_pos_len (n : Nat) : 0 < (numL n).length := List.length_pos_iff.mpr (numL_ne n)
theorem dv_lt : ∀ s : Tx, AllDigits s → digitsVal s < 10 ^ s.length := by
  intro s
  induction s using snocRec with
  | h0 => intro _; decide
  | h1 b c ih =>
    intro h
    have h1 := ih fun d hd => h d (List.mem_append_left _ hd)
    have hc : 48 ≤ c ∧ c ≤ 57 := h c (by simp)
    rw [dv_snoc, List.length_append, List.length_singleton, Nat.pow_succ]
    omega
theorem numL_len_ge {n k : Nat} (h : 10 ^ k ≤ n) : k < (numL n).length := by
  rcases Nat.lt_or_ge k (numL n).length with z | z
  · exact z
  · have h1 := dv_lt (numL n) (numL_digits n)
    rw [numL_val] at h1
    have := Nat.pow_le_pow_right (by decide : 0 < 10) z
    omega
/-- cut by places -/
theorem cut_from {α : Type} (l : List α) (i : Nat) : cut l (some (i : Int)) none = l.drop i := by
  unfold cut
  rw [HT.sIx_nat, HT.sIx_none]
  rcases Nat.le_total i l.length with h | h
  · rw [Nat.min_eq_left h, List.take_of_length_le (by rw [List.length_drop]; exact Nat.le_refl _)]
  · rw [Nat.min_eq_right h, List.drop_eq_nil_of_le (Nat.le_refl _), List.drop_eq_nil_of_le h, List.take_nil]
theorem cut_to {α : Type} (l : List α) (i : Nat) : cut l none (some (i : Int)) = l.take i := by
  unfold cut
  rw [HT.sIx_nat, HT.sIx_none, List.drop_zero, Nat.sub_zero]
  rcases Nat.le_total i l.length with h | h
  · rw [Nat.min_eq_left h]
  · rw [Nat.min_eq_right h, List.take_of_length_le (Nat.le_refl _), List.take_of_length_le h]
theorem cut_mid {α : Type} (l : List α) (i j : Nat) : cut l (some (i : Int)) (some (j : Int)) = (l.drop i).take (j - i) := by
  unfold cut
  rw [HT.sIx_nat, HT.sIx_nat]
  rcases Nat.le_total i l.length with h | h
  · rw [Nat.min_eq_left h]
    rcases Nat.le_total j l.length with h2 | h2
    · rw [Nat.min_eq_left h2]
    · rw [Nat.min_eq_right h2, List.take_of_length_le (by rw [List.length_drop]; exact Nat.le_refl _), List.take_of_length_le (by rw [List.length_drop]; omega)]
  · rw [Nat.min_eq_right h, List.drop_eq_nil_of_le (Nat.le_refl _), List.drop_eq_nil_of_le h, List.take_nil, List.take_nil]
/-- where c comes first from i on -/
theorem getD_T (s : Tx) (k : Nat) : (T s).cps.getD k 0 = s.getD k 0 := by
  show s.toArray.getD k 0 = s.getD k 0
  simp [Array.getD_eq_getD_getElem?, List.getD_eq_getElem?_getD]
theorem fromIndex_nat (n i : Nat) : fromIndex n (i : Int) = i := by
  unfold fromIndex
  rw [if_neg (by omega)]
  omega
theorem find3_first {s u v : Tx} {c : Nat} {i : Nat} (hs : s.drop i = u ++ c :: v) (hu : c ∉ u) : Txt.find3 (T s) (T [c]) (i : Int) = ((i + u.length : Nat) : Int) := by
  have hg : ∀ k : Nat, s.getD (i + k) 0 = (u ++ c :: v).getD k 0 := fun k => by
    rw [← hs]
    simp [List.getD_eq_getElem?_getD, List.getElem?_drop]
  have hl : s.length = i + (u.length + (v.length + 1)) := by
    have := congrArg List.length hs
    rw [List.length_drop, List.length_append, List.length_cons] at this
    omega
  have hlT := T_len s
  have at0 : s.getD (i + u.length) 0 = c := by
    rw [hg]
    simp [List.getD_eq_getElem?_getD]
  have ahead : ∀ k, k < u.length → s.getD (i + k) 0 ≠ c := fun k hk e => by
    rw [hg, List.getD_eq_getElem?_getD, List.getElem?_append_left hk, List.getElem?_eq_getElem hk] at e
    exact hu (by rw [← e]; exact List.getElem_mem hk)
  rcases StrLaws.find3_spec (T s) c (i : Int) with ⟨_, h⟩ | ⟨k, h1, h2, h3, h4, h5⟩
  · rw [fromIndex_nat] at h
    exact absurd (by rw [getD_T]; exact at0) (h (i + u.length) (by omega) (by omega))
  · rw [fromIndex_nat] at h2 h5
    have e : k = i + u.length := by
      rcases Nat.lt_trichotomy k (i + u.length) with z | z | z
      · have := ahead (k - i) (by omega)
        rw [getD_T] at h4
        rw [show i + (k - i) = k by omega] at this
        exact absurd h4 this
      · exact z
      · exact absurd (by rw [getD_T]; exact at0) (h5 (i + u.length) (by omega) z)
    rw [← e]
    exact h1
theorem find3_none {s : Tx} {c : Nat} {i : Nat} (hu : c ∉ s.drop i) : Txt.find3 (T s) (T [c]) (i : Int) = -1 := by
  have hlT := T_len s
  rcases StrLaws.find3_spec (T s) c (i : Int) with ⟨h, _⟩ | ⟨k, h1, h2, h3, h4, h5⟩
  · exact h
  · rw [fromIndex_nat] at h2
    rw [getD_T] at h4
    refine absurd ?_ hu
    have hk : k < s.length := by omega
    rw [List.getD_eq_getElem?_getD, List.getElem?_eq_getElem hk] at h4
    have e : (s.drop i)[k - i]? = some c := by
      rw [List.getElem?_drop, show i + (k - i) = k by omega, List.getElem?_eq_getElem hk]
      exact congrArg some h4
    exact List.mem_of_getElem? e
theorem numT_nat (n : Nat) : numT (n : Int) = numL n := by
  unfold numT
  rw [if_neg (by omega), Int.natAbs_natCast]
theorem numT_neg {i : Int} (h : i < 0) : numT i = 45 :: numL i.natAbs := by
  unfold numT
  rw [if_pos h]
theorem numT_pos {i : Int} (h : ¬ i < 0) : numT i = numL i.natAbs := by
  unfold numT
  rw [if_neg h]
theorem log2_few {n k : Nat} (h : n < 2 ^ k) (hk : 0 < k) : n.log2 < k := by
  by_cases h0 : n = 0
  · subst h0
    exact hk
  · exact (Nat.log2_lt h0).mpr h
theorem log2_64 {n : Nat} (h : n < 18446744073709551616) : n.log2 < 1920 := Nat.lt_of_lt_of_le (log2_few (k := 64) h (by decide)) (by decide)
theorem num_1 : numL 1 = [49] := numL_lt (by decide)
end Mi
set_option maxRecDepth 100000
/-! Loops over what stands still. -/
namespace Mi
theorem ifB_np {c : Prop} [Decidable c] {A B : Prop} (h1 : ¬ c → A) (h2 : c → B) : ifB (!decide c) A B := ⟨fun h => h1 (by simpa using h), fun h => h2 (by simpa using h)⟩
/-- what is walked is l -/
def Wk (ni : Ni) (l : List MV) (M : Hm) : Prop := ∀ k, ni M k = some l[k]?
theorem wk_T {l : List MV} {M : Hm} : Wk (nT l) l M := fun _ => rfl
theorem wk_L {l : List MV} {M : Hm} {i : Nat} (h : M[i]? = some (.lst l)) : Wk (nL i) l M := fun k => by
  unfold nL
  rw [h]
theorem wk_R {lo c : Int} {n : Nat} {M : Hm} : Wk (nR lo c n) ((List.range n).map fun k : Nat => .int (lo + k * c)) M := fun k => by
  unfold nR
  rw [List.getElem?_map]
  by_cases h : k < n
  · rw [if_pos h, List.getElem?_range h]
    rfl
  · rw [if_neg h, List.getElem?_eq_none (by simp; omega)]
    rfl
section
variable {E : MX → Hm → Prop} {M : Hm} {env : Env} {e ek ev : Fe} {c c1 : Ft} {g g1 : Ftg} {it1 : Fi} {vs1 : List Nat}
abbrev FF : MX → Hm → Prop := fun _ _ => False
theorem w_lcF0 {Ql : List MV → Hm → Prop} {ni : Ni} {l : List MV} (f : MV → Option MV) (acc0 : List MV) (hw : Wk ni l M) (hl : acc0.length + l.length ≤ SL)
    (step : ∀ d ∈ l, wp (g d env M) (fun e1 M1 => wp (c e1 M1) (fun t M2 => ifB t (wp (e e1 M2) (fun y M3 => f d = some y ∧ M3 = M) FF) (f d = none ∧ M2 = M)) FF) FF)
    (h : Ql (acc0 ++ l.filterMap f) M) : wp (lcGo ni g c e env (l.length + 1) 0 acc0 M) Ql E := by
  refine w_lc0 (fun k acc M' => acc = acc0 ++ (l.take k).filterMap f ∧ M' = M) l.length (fun k acc M' hi hk => ⟨l[k]?, ?_, ?_⟩) (fun k d acc M' hk hd hi => ?_) (fun acc M' hi => ?_) _ 0 _ M (by omega) (by omega) ⟨by simp, rfl⟩
  · rw [hi.2]; exact hw k
  · rw [List.getElem?_eq_none_iff]; omega
  · obtain ⟨rfl, rfl⟩ := hi
    have hd : l[k]? = some d := by
      have := (hw k).symm.trans hd
      exact Option.some.inj this
    have hs := step d (List.mem_of_getElem? hd)
    have ht : l.take (k + 1) = l.take k ++ [d] := by
      rw [List.take_add_one, hd]
      rfl
    have hlen : (acc0 ++ (l.take k).filterMap f).length < SL := by
      have h1 := List.length_filterMap_le f (l.take k)
      have h2 : (l.take k).length = k := by rw [List.length_take]; omega
      rw [List.length_append]
      omega
    refine wp_mono hs (fun e1 M1 h1 => wp_mono h1 (fun t M2 h2 => ⟨fun ht1 => ?_, fun ht0 => ?_⟩) fun _ _ z => z) fun _ _ z => z
    · refine wp_mono (h2.t ht1) (fun y M3 h3 => ?_) fun _ _ z => z
      refine ⟨hlen, ?_, h3.2⟩
      rw [ht, List.filterMap_append, List.filterMap_cons, h3.1]
      simp
    · obtain ⟨h3, h4⟩ := h2.f ht0
      refine ⟨?_, h4⟩
      rw [ht, List.filterMap_append, List.filterMap_cons, h3]
      simp
  · obtain ⟨rfl, rfl⟩ := hi
    rw [List.take_length]
    exact h
theorem w_lcF {Ql : List MV → Hm → Prop} {ni : Ni} {l : List MV} (f : MV → Option MV) (hw : Wk ni l M) (hl : l.length ≤ SL)
    (step : ∀ d ∈ l, wp (g d env M) (fun e1 M1 => wp (c e1 M1) (fun t M2 => ifB t (wp (e e1 M2) (fun y M3 => f d = some y ∧ M3 = M) FF) (f d = none ∧ M2 = M)) FF) FF)
    (h : Ql (l.filterMap f) M) : wp (lcGo ni g c e env (l.length + 1) 0 [] M) Ql E := w_lcF0 f [] hw (by simpa using hl) step (by simpa using h)
theorem w_lcM {Ql : List MV → Hm → Prop} {ni : Ni} {l : List MV} (f : MV → MV) (hw : Wk ni l M) (hl : l.length ≤ SL)
    (step : ∀ d ∈ l, wp (g d env M) (fun e1 M1 => wp (e e1 M1) (fun y M3 => y = f d ∧ M3 = M) FF) FF)
    (h : Ql (l.map f) M) : wp (lcGo ni g cYes e env (l.length + 1) 0 [] M) Ql E := by
  refine w_lcF (fun d => some (f d)) hw hl (fun d hd => wp_mono (step d hd) (fun e1 M1 h1 => ?_) fun _ _ z => z) ?_
  · rw [w_cYes, ifB_true rfl]
    refine wp_mono h1 (fun y M3 h3 => ⟨by rw [h3.1], h3.2⟩) fun _ _ z => z
  · have : l.filterMap (fun d => some (f d)) = l.map f := by
      rw [List.filterMap_eq_map']
    rw [this]
    exact h
theorem w_lcM0 {Ql : List MV → Hm → Prop} {ni : Ni} {l acc0 : List MV} (f : MV → MV) (hw : Wk ni l M) (hl : acc0.length + l.length ≤ SL)
    (step : ∀ d ∈ l, wp (g d env M) (fun e1 M1 => wp (e e1 M1) (fun y M3 => y = f d ∧ M3 = M) FF) FF)
    (h : Ql (acc0 ++ l.map f) M) : wp (lcGo ni g cYes e env (l.length + 1) 0 acc0 M) Ql E := by
  refine w_lcF0 (fun d => some (f d)) acc0 hw hl (fun d hd => wp_mono (step d hd) (fun e1 M1 h1 => ?_) fun _ _ z => z) ?_
  · rw [w_cYes, ifB_true rfl]
    refine wp_mono h1 (fun y M3 h3 => ⟨by rw [h3.1], h3.2⟩) fun _ _ z => z
  · have : l.filterMap (fun d => some (f d)) = l.map f := by
      rw [List.filterMap_eq_map']
    rw [this]
    exact h
@[simp ↓] theorem w_lc2 {Q : MV → Hm → Prop} {it : Fi} {vs : List Nat} : wp (eLc2 it g c it1 g1 c1 e vs vs1 env M) Q E = wp (it env M) (fun p M1 => wp (lc2Go p.1 g c it1 g1 c1 e vs1 (wipeE env vs) p.2 0 [] M1) (fun l M2 => Q (.ref M2.length) (M2 ++ [.lst l])) E) E := by unfold eLc2; simp
/-- two clauses without tests, each source a list that is told: flat -/
theorem w_lc2M {Ql : List MV → Hm → Prop} {ni : Ni} {l : List MV} (f : MV → List MV) (hw : Wk ni l M)
    (step : ∀ d ∈ l, ∀ (acc : List MV) (K : List MV → Hm → Prop), K (acc ++ f d) M → acc.length + (f d).length ≤ SL → wp (g d env M) (fun e1 M1 => wp (it1 e1 M1) (fun p M3 => wp (lcGo p.1 g1 c1 e (wipeE e1 vs1) p.2 0 acc M3) K FF) FF) FF)
    (hl : (l.flatMap f).length ≤ SL) (h : Ql (l.flatMap f) M) : wp (lc2Go ni g cYes it1 g1 c1 e vs1 env (l.length + 1) 0 [] M) Ql E := by
  have key : ∀ (n k : Nat), k + n = l.length + 1 → k ≤ l.length → wp (lc2Go ni g cYes it1 g1 c1 e vs1 env n k ((l.take k).flatMap f) M) Ql E := by
    intro n
    induction n with
    | zero => intro k h1 h2; omega
    | succ n ih =>
      intro k h1 h2
      show wp (match ni M k with
        | none => .bad
        | some none => .ok ((l.take k).flatMap f) M
        | some (some x) => (g x env M).bindN fun env1 M1 => (cYes env1 M1).bindN fun b M2 =>
          if b then (it1 env1 M2).bindN fun p M3 => (lcGo p.1 g1 c1 e (wipeE env1 vs1) p.2 0 ((l.take k).flatMap f) M3).bindN fun acc' M4 => lc2Go ni g cYes it1 g1 c1 e vs1 env n (k + 1) acc' M4
          else lc2Go ni g cYes it1 g1 c1 e vs1 env n (k + 1) ((l.take k).flatMap f) M2) Ql E
      rw [hw k]
      by_cases hk : k < l.length
      · rw [List.getElem?_eq_getElem hk]
        have ht : l.take (k + 1) = l.take k ++ [l[k]] := by
          rw [List.take_add_one, List.getElem?_eq_getElem hk]
          rfl
        have ih' := ih (k + 1) (by omega) (by omega)
        rw [ht, List.flatMap_append] at ih'
        have hlen : ((l.take k).flatMap f).length + (f l[k]).length ≤ SL := by
          have e1 : l = l.take k ++ l[k] :: l.drop (k + 1) := by
            rw [List.getElem_cons_drop, List.take_append_drop]
          have : (l.flatMap f).length = ((l.take k).flatMap f).length + ((f l[k]).length + ((l.drop (k + 1)).flatMap f).length) := by
            have := congrArg (fun z => (z.flatMap f).length) e1
            simp only [List.flatMap_append, List.flatMap_cons, List.length_append] at this
            exact this
          omega
        have hs := step l[k] (List.getElem_mem hk) ((l.take k).flatMap f) (fun acc' M4 => wp (lc2Go ni g cYes it1 g1 c1 e vs1 env n (k + 1) acc' M4) Ql E) (by simpa using ih') hlen
        show wp ((g l[k] env M).bindN fun env1 M1 => (cYes env1 M1).bindN fun b M2 =>
          if b then (it1 env1 M2).bindN fun p M3 => (lcGo p.1 g1 c1 e (wipeE env1 vs1) p.2 0 ((l.take k).flatMap f) M3).bindN fun acc' M4 => lc2Go ni g cYes it1 g1 c1 e vs1 env n (k + 1) acc' M4
          else lc2Go ni g cYes it1 g1 c1 e vs1 env n (k + 1) ((l.take k).flatMap f) M2) Ql E
        rw [wp_bindN]
        refine wp_mono hs (fun e1 M1 h1 => ?_) fun _ _ z => z
        rw [wp_bindN, w_cYes]
        show wp ((it1 e1 M1).bindN fun p M3 => (lcGo p.1 g1 c1 e (wipeE e1 vs1) p.2 0 ((l.take k).flatMap f) M3).bindN fun acc' M4 => lc2Go ni g cYes it1 g1 c1 e vs1 env n (k + 1) acc' M4) Ql E
        rw [wp_bindN]
        refine wp_mono h1 (fun p M3 h3 => ?_) fun _ _ z => z
        rw [wp_bindN]
        exact h3
      · have e0 : k = l.length := by omega
        subst e0
        rw [List.getElem?_eq_none (Nat.le_refl _)]
        show wp (.ok ((l.take l.length).flatMap f) M) Ql E
        rw [wp_ok, List.take_length]
        exact h
  exact key (l.length + 1) 0 (by omega) (by omega)
@[simp ↓] theorem w_dc {Q : MV → Hm → Prop} {it : Fi} {vs : List Nat} : wp (eDc it g c ek ev vs env M) Q E = wp (it env M) (fun p M1 => wp (dcGo p.1 g c ek ev (wipeE env vs) p.2 0 [] M1) (fun l M2 => Q (.ref M2.length) (M2 ++ [.dic l])) E) E := by unfold eDc; simp
/-- a dict of what stands still, without tests -/
theorem w_dcM {Ql : List (MV × MV) → Hm → Prop} {ni : Ni} {l : List MV} (f : MV → MV × MV) (hw : Wk ni l M) (hl : l.length ≤ SL)
    (step : ∀ d ∈ l, wp (g d env M) (fun e1 M1 => wp (ek e1 M1) (fun y M3 => wp (ev e1 M3) (fun z M4 => y = (f d).1 ∧ isKey y = true ∧ z = (f d).2 ∧ M4 = M) FF) FF) FF)
    (h : Ql (putAll [] (l.map f)) M) : wp (dcGo ni g cYes ek ev env (l.length + 1) 0 [] M) Ql E := by
  have app : ∀ (a b l0 : List (MV × MV)), putAll l0 (a ++ b) = putAll (putAll l0 a) b := by
    intro a
    induction a with
    | nil => intro b l0; rfl
    | cons p a ih => intro b l0; obtain ⟨k, d⟩ := p; exact ih b _
  have len : ∀ (a l0 : List (MV × MV)), (putAll l0 a).length ≤ l0.length + a.length := by
    intro a
    induction a with
    | nil => intro l0; exact Nat.le_refl _
    | cons p a ih =>
      intro l0
      obtain ⟨k, d⟩ := p
      have h1 := ih (putD l0 k d)
      have h2 : (putD l0 k d).length ≤ l0.length + 1 := by
        unfold putD
        split <;> simp
      show (putAll (putD l0 k d) a).length ≤ _
      rw [List.length_cons]
      omega
  have key : ∀ (n k : Nat), k + n = l.length + 1 → k ≤ l.length → wp (dcGo ni g cYes ek ev env n k (putAll [] ((l.take k).map f)) M) Ql E := by
    intro n
    induction n with
    | zero => intro k h1 h2; omega
    | succ n ih =>
      intro k h1 h2
      show wp (match ni M k with
        | none => .bad
        | some none => .ok (putAll [] ((l.take k).map f)) M
        | some (some x) => (g x env M).bindN fun env1 M1 => (cYes env1 M1).bindN fun b M2 =>
          if b then (ek env1 M2).bindN fun y M3 => (ev env1 M3).bindN fun z M4 => if isKey y && decide ((putAll [] ((l.take k).map f)).length < SL) then dcGo ni g cYes ek ev env n (k + 1) (putD (putAll [] ((l.take k).map f)) y z) M4 else .bad
          else dcGo ni g cYes ek ev env n (k + 1) (putAll [] ((l.take k).map f)) M2) Ql E
      rw [hw k]
      by_cases hk : k < l.length
      · rw [List.getElem?_eq_getElem hk]
        have ht : l.take (k + 1) = l.take k ++ [l[k]] := by
          rw [List.take_add_one, List.getElem?_eq_getElem hk]
          rfl
        have ih' := ih (k + 1) (by omega) (by omega)
        rw [ht, List.map_append, app] at ih'
        have hlen : (putAll [] ((l.take k).map f)).length < SL := by
          have := len ((l.take k).map f) []
          rw [List.length_map, List.length_take] at this
          simp only [List.length_nil] at this
          omega
        have hs := step l[k] (List.getElem_mem hk)
        show wp ((g l[k] env M).bindN fun env1 M1 => (cYes env1 M1).bindN fun b M2 =>
          if b then (ek env1 M2).bindN fun y M3 => (ev env1 M3).bindN fun z M4 => if isKey y && decide ((putAll [] ((l.take k).map f)).length < SL) then dcGo ni g cYes ek ev env n (k + 1) (putD (putAll [] ((l.take k).map f)) y z) M4 else .bad
          else dcGo ni g cYes ek ev env n (k + 1) (putAll [] ((l.take k).map f)) M2) Ql E
        rw [wp_bindN]
        refine wp_mono hs (fun e1 M1 h1 => ?_) fun _ _ z => z
        rw [wp_bindN, w_cYes]
        show wp ((ek e1 M1).bindN fun y M3 => (ev e1 M3).bindN fun z M4 => if isKey y && decide ((putAll [] ((l.take k).map f)).length < SL) then dcGo ni g cYes ek ev env n (k + 1) (putD (putAll [] ((l.take k).map f)) y z) M4 else .bad) Ql E
        rw [wp_bindN]
        refine wp_mono h1 (fun y M3 h3 => ?_) fun _ _ z => z
        rw [wp_bindN]
        refine wp_mono h3 (fun z M4 h4 => ?_) fun _ _ z => z
        obtain ⟨r1, r2, r3, r4⟩ := h4
        rw [if_pos (by rw [r2, decide_eq_true hlen]; rfl), r1, r3, r4]
        exact ih'
      · have e0 : k = l.length := by omega
        subst e0
        rw [List.getElem?_eq_none (Nat.le_refl _)]
        show wp (.ok (putAll [] ((l.take l.length).map f)) M) Ql E
        rw [wp_ok, List.take_length]
        exact h
  exact key (l.length + 1) 0 (by omega) (by omega)
end
/-- a for, by what has been walked -/
theorem wS_forP {Q : O → Env → Hm → Prop} {E : MX → Env → Hm → Prop} {M : Hm} {env : Env} {b : Fs} {g : Ftg} {ni : Ni} {l : List MV} (Inv : List MV → Env → Hm → Prop) (h0 : Inv [] env M)
    (hw : ∀ p env M, Inv p env M → Wk ni l M)
    (step : ∀ p d r env M, l = p ++ d :: r → Inv p env M → wp (g d env M) (fun e1 M1 => wpS (b e1 M1) (fun o e2 M2 => match o with
      | .nx => Inv (p ++ [d]) e2 M2
      | .cnt => Inv (p ++ [d]) e2 M2
      | .brk => Q .nx e2 M2
      | .ret d => Q (.ret d) e2 M2) E) (fun x M1 => E x env M1))
    (hend : ∀ env M, Inv l env M → Q .nx env M) : wpS (forGo ni g b (l.length + 1) 0 env M) Q E := by
  refine wS_for0 (fun k env M => Inv (l.take k) env M) l.length (fun k env M hi hk => ⟨l[k]?, hw _ _ _ hi k, ?_⟩) (fun k d env M hk hd hi => ?_) (fun env M hi => hend env M (by rwa [List.take_length] at hi)) _ 0 env M (by omega) (by omega) (by simpa using h0)
  · rw [List.getElem?_eq_none_iff]; omega
  · have hd : l[k]? = some d := by
      have := (hw _ _ _ hi k).symm.trans hd
      exact Option.some.inj this
    have ht : l.take (k + 1) = l.take k ++ [d] := by
      rw [List.take_add_one, hd]
      rfl
    have hl : l = l.take k ++ d :: l.drop (k + 1) := by
      have e : l[k] = d := Option.some.inj (by rw [← List.getElem?_eq_getElem hk]; exact hd)
      rw [← e, List.getElem_cons_drop, List.take_append_drop]
    rw [ht]
    exact step _ _ _ _ _ hl hi
/-- a for over the images of a list -/
theorem wS_forM {α : Type} {F : α → MV} {Q : O → Env → Hm → Prop} {E : MX → Env → Hm → Prop} {M : Hm} {env : Env} {b : Fs} {g : Ftg} {ni : Ni} {l : List α} {m : Nat} (Inv : List α → Env → Hm → Prop) (h0 : Inv [] env M)
    (hw : ∀ p env M, Inv p env M → Wk ni (l.map F) M)
    (step : ∀ p d r env M, l = p ++ d :: r → Inv p env M → wp (g (F d) env M) (fun e1 M1 => wpS (b e1 M1) (fun o e2 M2 => match o with
      | .nx => Inv (p ++ [d]) e2 M2
      | .cnt => Inv (p ++ [d]) e2 M2
      | .brk => Q .nx e2 M2
      | .ret d => Q (.ret d) e2 M2) E) (fun x M1 => E x env M1))
    (hend : ∀ env M, Inv l env M → Q .nx env M) (hm : m = l.length + 1 := by simp) : wpS (forGo ni g b m 0 env M) Q E := by
  rw [hm]
  refine wS_for0 (fun k env M => Inv (l.take k) env M) l.length (fun k env M hi hk => ⟨(l.map F)[k]?, hw _ _ _ hi k, ?_⟩) (fun k d env M hk hd hi => ?_) (fun env M hi => hend env M (by rwa [List.take_length] at hi)) _ 0 env M (by omega) (by omega) (by simpa using h0)
  · rw [List.getElem?_eq_none_iff, List.length_map]; omega
  · have hd : (l.map F)[k]? = some d := by
      have := (hw _ _ _ hi k).symm.trans hd
      exact Option.some.inj this
    have e : F l[k] = d := by
      rw [List.getElem?_map, List.getElem?_eq_getElem hk] at hd
      exact Option.some.inj hd
    subst e
    have ht : l.take (k + 1) = l.take k ++ [l[k]] := by
      rw [List.take_add_one, List.getElem?_eq_getElem hk]
      rfl
    have hl : l = l.take k ++ l[k] :: l.drop (k + 1) := by
      rw [List.getElem_cons_drop, List.take_append_drop]
    rw [ht]
    exact step _ _ _ _ _ hl hi
section
variable {E : MX → Hm → Prop} {M : Hm} {env : Env} {e ek ev : Fe} {c c1 : Ft} {g g1 : Ftg} {it1 : Fi} {vs1 : List Nat}
theorem w_lcMm {α : Type} {F : α → MV} {Ql : List MV → Hm → Prop} {ni : Ni} {l : List α} {m : Nat} (f : α → MV) (hw : Wk ni (l.map F) M) (hl : l.length ≤ SL)
    (step : ∀ d ∈ l, wp (g (F d) env M) (fun e1 M1 => wp (e e1 M1) (fun y M3 => y = f d ∧ M3 = M) FF) FF)
    (h : Ql (l.map f) M) (hm : m = l.length + 1 := by simp) : wp (lcGo ni g cYes e env m 0 [] M) Ql E := by
  have e0 : l.length + 1 = (l.map F).length + 1 := by rw [List.length_map]
  rw [hm, e0]
  refine w_lc0 (fun k acc M' => acc = (l.take k).map f ∧ M' = M) (l.map F).length (fun k acc M' hi hk => ⟨(l.map F)[k]?, ?_, ?_⟩) (fun k d acc M' hk hd hi => ?_) (fun acc M' hi => ?_) _ 0 _ M (by omega) (by omega) ⟨by simp, rfl⟩
  · rw [hi.2]; exact hw k
  · rw [List.getElem?_eq_none_iff]; omega
  · obtain ⟨rfl, rfl⟩ := hi
    have hd : (l.map F)[k]? = some d := Option.some.inj ((hw k).symm.trans hd)
    have hk' : k < l.length := by simpa using hk
    have e1 : F l[k] = d := by
      rw [List.getElem?_map, List.getElem?_eq_getElem hk'] at hd
      exact Option.some.inj hd
    subst e1
    have ht : l.take (k + 1) = l.take k ++ [l[k]] := by
      rw [List.take_add_one, List.getElem?_eq_getElem hk']
      rfl
    refine wp_mono (step l[k] (List.getElem_mem hk')) (fun e1 M1 h1 => ?_) fun _ _ z => z
    rw [w_cYes, ifB_true rfl]
    refine wp_mono h1 (fun y M3 h3 => ⟨?_, ?_, h3.2⟩) fun _ _ z => z
    · rw [List.length_map, List.length_take]
      omega
    · rw [ht, List.map_append, h3.1]
      rfl
  · obtain ⟨rfl, rfl⟩ := hi
    rw [List.length_map, List.take_length]
    exact h
theorem w_lcFm {α : Type} {F : α → MV} {Ql : List MV → Hm → Prop} {ni : Ni} {l : List α} {m : Nat} (f : α → Option MV) (hw : Wk ni (l.map F) M) (hl : l.length ≤ SL)
    (step : ∀ d ∈ l, wp (g (F d) env M) (fun e1 M1 => wp (c e1 M1) (fun t M2 => ifB t (wp (e e1 M2) (fun y M3 => f d = some y ∧ M3 = M) FF) (f d = none ∧ M2 = M)) FF) FF)
    (h : Ql (l.filterMap f) M) (hm : m = l.length + 1 := by simp) : wp (lcGo ni g c e env m 0 [] M) Ql E := by
  have e0 : l.length + 1 = (l.map F).length + 1 := by rw [List.length_map]
  rw [hm, e0]
  refine w_lc0 (fun k acc M' => acc = (l.take k).filterMap f ∧ M' = M) (l.map F).length (fun k acc M' hi hk => ⟨(l.map F)[k]?, ?_, ?_⟩) (fun k d acc M' hk hd hi => ?_) (fun acc M' hi => ?_) _ 0 _ M (by omega) (by omega) ⟨by simp, rfl⟩
  · rw [hi.2]; exact hw k
  · rw [List.getElem?_eq_none_iff]; omega
  · obtain ⟨rfl, rfl⟩ := hi
    have hd : (l.map F)[k]? = some d := Option.some.inj ((hw k).symm.trans hd)
    have hk' : k < l.length := by simpa using hk
    have e1 : F l[k] = d := by
      rw [List.getElem?_map, List.getElem?_eq_getElem hk'] at hd
      exact Option.some.inj hd
    subst e1
    have ht : l.take (k + 1) = l.take k ++ [l[k]] := by
      rw [List.take_add_one, List.getElem?_eq_getElem hk']
      rfl
    have hlen : ((l.take k).filterMap f).length < SL := by
      have h1 := List.length_filterMap_le f (l.take k)
      have h2 : (l.take k).length = k := by rw [List.length_take]; omega
      omega
    refine wp_mono (step l[k] (List.getElem_mem hk')) (fun e1 M1 h1 => wp_mono h1 (fun t M2 h2 => ⟨fun ht1 => ?_, fun ht0 => ?_⟩) fun _ _ z => z) fun _ _ z => z
    · refine wp_mono (h2.t ht1) (fun y M3 h3 => ⟨hlen, ?_, h3.2⟩) fun _ _ z => z
      rw [ht, List.filterMap_append, List.filterMap_cons, h3.1]
      simp
    · obtain ⟨h3, h4⟩ := h2.f ht0
      refine ⟨?_, h4⟩
      rw [ht, List.filterMap_append, List.filterMap_cons, h3]
      simp
  · obtain ⟨rfl, rfl⟩ := hi
    rw [List.length_map, List.take_length]
    exact h
end
theorem boolsOf_map {p : MV → Bool} {l : List MV} : boolsOf (l.map fun d => .bl (p d)) = some (l.map p) := by
  unfold boolsOf
  induction l with
  | nil => rfl
  | cons d l ih =>
    rw [List.map_cons, List.mapM_cons, ih]
    rfl
theorem textsOf_map {α : Type} {f : α → Tx} {l : List α} : textsOf (l.map fun d => .str (f d)) = some (l.map f) := by
  unfold textsOf
  induction l with
  | nil => rfl
  | cons d l ih =>
    rw [List.map_cons, List.mapM_cons, ih]
    rfl
theorem textsOf_strs {l : List Tx} : textsOf (l.map MV.str) = some l := by
  have := textsOf_map (f := id) (l := l)
  simpa using this
/-- what a run that only can end so gives -/
theorem run_of {α : Type} {r : R α} {v : α} {M : Hm} (h : ∀ (Q : α → Hm → Prop) (E : MX → Hm → Prop), Q v M → wp r Q E) : r = .ok v M := by
  obtain ⟨a, M', e, h1, h2⟩ := wp_ok_of (h (fun a M' => a = v ∧ M' = M) (fun _ _ => False) ⟨rfl, rfl⟩)
  rw [e, h1, h2]
theorem wp_of {α : Type} {r : R α} {v : α} {M : Hm} (h : r = .ok v M) (Q : α → Hm → Prop) (E : MX → Hm → Prop) : wp r Q E = Q v M := by
  rw [h, wp_ok]
end Mi
set_option maxRecDepth 100000
/-! What must hold ahead of the newer pieces. -/
namespace Mi
/-- the object at k, an instance -/
def rdIn (M : Hm) (k c : Nat) (F : List (Tx × MV) → Prop) : Prop := match M[k]? with
  | some (.ins c' fs) => c' = c ∧ F fs
  | _ => False
theorem rdIn_of {M : Hm} {k c : Nat} {fs : List (Tx × MV)} (h : M[k]? = some (.ins c fs)) (F : List (Tx × MV) → Prop) : rdIn M k c F = F fs := by
  unfold rdIn
  rw [h]
  exact propext ⟨fun q => q.2, fun q => ⟨rfl, q⟩⟩
def rdGi : Hm → Nat → Nat → (List (Tx × MV) → Prop) → Prop
  | .ins c' fs :: _, 0, c, F => c' = c ∧ F fs
  | _ :: G, n + 1, c, F => rdGi G n c F
  | _, _, _, _ => False
@[simp ↓] theorem rdGi_0 {c : Nat} {fs : List (Tx × MV)} {G : Hm} {F : List (Tx × MV) → Prop} : rdGi (.ins c fs :: G) 0 c F = F fs := nr (propext ⟨fun q => q.2, fun q => ⟨rfl, q⟩⟩)
@[simp ↓] theorem rdGi_s {o : MO} {G : Hm} {n c : Nat} {F : List (Tx × MV) → Prop} : rdGi (o :: G) (n + 1) c F = rdGi G n c F := by cases o <;> rfl
theorem rdGi_eq {c : Nat} {F : List (Tx × MV) → Prop} : ∀ (G : Hm) (i : Nat), rdGi G i c F = (match G[i]? with | some (.ins c' fs) => c' = c ∧ F fs | _ => False)
  | [], i => by cases i <;> rfl
  | .lst l :: G, 0 => rfl
  | .dic l :: G, 0 => rfl
  | .ins c l :: G, 0 => rfl
  | .lst l :: G, n + 1 => rdGi_eq G n
  | .dic l :: G, n + 1 => rdGi_eq G n
  | .ins c l :: G, n + 1 => rdGi_eq G n
@[simp ↓] theorem rdIn_app {M G : Hm} {i c : Nat} {F : List (Tx × MV) → Prop} : rdIn (M ++ G) (M.length + i) c F = rdGi G i c F := by
  unfold rdIn
  rw [get_app, rdGi_eq]
@[simp ↓] theorem rdIn_app0 {M G : Hm} {c : Nat} {F : List (Tx × MV) → Prop} : rdIn (M ++ G) M.length c F = rdGi G 0 c F := rdIn_app (i := 0)
@[simp ↓] theorem rdTy_dict {M : Hm} {k : Nat} {P : Prop} : rdTy M .dict (.ref k) P = rdD M k fun _ => P := by
  unfold rdTy rdD
  show (if (match M[k]? with | some (.dic _) => true | _ => false) = true then P else False) = _
  cases M[k]? with
  | none => rfl
  | some o => cases o <;> rfl
section
variable {Q : MV → Hm → Prop} {E : MX → Hm → Prop} {M : Hm} {env : Env} {a b o : Fe} {t : Fa}
@[simp ↓] theorem w_fld {c : Nat} {f : Tx} : wp (eFld c f a env M) Q E = wp (a env M) (fun x M1 => match x with | .ref k => rdIn M1 k c fun fs => rdO (fs.lookup f) fun d => Q d M1 | _ => False) E := by
  unfold eFld
  rw [wp_bind]
  congr 1
  funext x M1
  cases x with
  | ref k =>
    show wp (match M1[k]? with
      | some (.ins c' fs) => if c' = c then (match fs.lookup f with
        | some d => .ok d M1
        | none => .bad) else .bad
      | _ => .bad) Q E = rdIn M1 k c fun fs => rdO (fs.lookup f) fun d => Q d M1
    unfold rdIn
    cases M1[k]? with
    | none => exact wp_bad
    | some ob =>
      cases ob with
      | ins c' fs =>
        show wp (if c' = c then (match fs.lookup f with
          | some d => .ok d M1
          | none => .bad) else .bad) Q E = (c' = c ∧ rdO (fs.lookup f) fun d => Q d M1)
        by_cases h : c' = c
        · rw [if_pos h]
          cases fs.lookup f with
          | none => show wp .bad Q E = _; rw [wp_bad]; simp
          | some d => show wp (.ok d M1) Q E = _; rw [wp_ok]; simp [h]
        · rw [if_neg h, wp_bad]; simp [h]
      | _ => exact wp_bad
  | _ => exact wp_bad
@[simp ↓] theorem w_mth {c f : Nat} {G : Ga} {m : Tx} : wp (eMth c G f m o t env M) Q E = wp (o env M) (fun x M1 => match x with | .ref k => rdIn M1 k c fun fs => fs.lookup m = none ∧ wp (t env M1) (fun xs M2 => wp (G f (.ref k :: xs) M2) Q FF) E | _ => False) E := by
  unfold eMth
  rw [wp_bind]
  congr 1
  funext x M1
  cases x with
  | ref k =>
    show wp (match M1[k]? with
      | some (.ins c' fs) => if c' = c ∧ fs.lookup m = none then (t env M1).bind fun xs M2 => (G f (.ref k :: xs) M2).bindN fun d M3 => .ok d M3 else .bad
      | _ => .bad) Q E = rdIn M1 k c fun fs => fs.lookup m = none ∧ wp (t env M1) (fun xs M2 => wp (G f (.ref k :: xs) M2) Q FF) E
    unfold rdIn
    cases M1[k]? with
    | none => exact wp_bad
    | some ob =>
      cases ob with
      | ins c' fs =>
        show wp (if c' = c ∧ fs.lookup m = none then (t env M1).bind fun xs M2 => (G f (.ref k :: xs) M2).bindN fun d M3 => .ok d M3 else .bad) Q E = (c' = c ∧ fs.lookup m = none ∧ wp (t env M1) (fun xs M2 => wp (G f (.ref k :: xs) M2) Q FF) E)
        by_cases h : c' = c ∧ fs.lookup m = none
        · rw [if_pos h, wp_bind]
          have : (fun (xs : List MV) (M2 : Hm) => wp ((G f (.ref k :: xs) M2).bindN fun d M3 => .ok d M3) Q E) = fun xs M2 => wp (G f (.ref k :: xs) M2) Q FF := by
            funext xs M2
            rw [wp_bindN]
            congr 1
            funext d M3
            exact wp_ok
          rw [this]
          simp only [h, true_and, and_self]
        · rw [if_neg h, wp_bad, ← and_assoc]; simp only [h, false_and]
      | _ => exact wp_bad
  | _ => exact wp_bad
@[simp ↓] theorem w_new {c f : Nat} {G : Ga} : wp (eNew c G f t env M) Q E = wp (t env M) (fun xs M1 => wp (G f (.ref M1.length :: xs) (M1 ++ [.ins c []])) (fun d M2 => d = .non ∧ Q (.ref M1.length) M2) FF) E := by
  unfold eNew
  rw [wp_bind]
  congr 1
  funext xs M1
  rw [wp_bindN]
  congr 1
  funext d M2
  cases d with
  | non => show wp (.ok _ M2) Q E = _; rw [wp_ok]; simp
  | _ => show wp .bad Q E = _; rw [wp_bad]; simp
@[simp ↓] theorem w_updD {k j : Nat} : wp (fUpdD (.ref k) [.ref j] M) Q E = rdD M k fun l => rdD M j fun m => (k ≠ j ∧ l.length + m.length ≤ SL) ∧ Q .non (M.set k (.dic (putAll l m))) := by
  show wp (match M[k]? with
    | some (.dic l) => (match M[j]? with
      | some (.dic m) => if k ≠ j ∧ l.length + m.length ≤ SL then .ok .non (M.set k (.dic (putAll l m))) else .bad
      | _ => .bad)
    | _ => .bad) Q E = _
  unfold rdD
  cases M[k]? with
  | none => exact wp_bad
  | some ob =>
    cases ob with
    | dic l =>
      show wp (match M[j]? with
      | some (.dic m) => if k ≠ j ∧ l.length + m.length ≤ SL then .ok .non (M.set k (.dic (putAll l m))) else .bad
      | _ => .bad) Q E = (match M[j]? with | some (.dic m) => (k ≠ j ∧ l.length + m.length ≤ SL) ∧ Q .non (M.set k (.dic (putAll l m))) | _ => False)
      cases M[j]? with
      | none => exact wp_bad
      | some ob =>
        cases ob with
        | dic m =>
          show wp (if k ≠ j ∧ l.length + m.length ≤ SL then .ok .non (M.set k (.dic (putAll l m))) else .bad) Q E = ((k ≠ j ∧ l.length + m.length ≤ SL) ∧ Q .non (M.set k (.dic (putAll l m))))
          by_cases h : k ≠ j ∧ l.length + m.length ≤ SL
          · rw [if_pos h, wp_ok]; simp only [h, true_and, and_self, ne_eq, not_false_eq_true]
          · rw [if_neg h, wp_bad]; simp only [h, false_and]
        | _ => exact wp_bad
    | _ => exact wp_bad
@[simp ↓] theorem w_kdIn {ks : List Tx} {g : Bool → Bool} : wp (eKdIn ks g a env M) Q E = wp (a env M) (fun x M1 => match x with | .str s => Q (.bl (g (decide (s ∈ ks)))) M1 | _ => False) E := by
  unfold eKdIn
  rw [wp_bind]
  congr 1
  funext x M1
  cases x with
  | str s => exact wp_ok
  | _ => exact wp_bad
@[simp ↓] theorem w_kdGet {l : List (Tx × MV)} : wp (eKdGet l a b env M) Q E = wp (a env M) (fun x M1 => wp (b env M1) (fun z M2 => match x with | .str s => Q ((l.lookup s).getD z) M2 | _ => False) E) E := by
  unfold eKdGet
  rw [wp_bind]
  congr 1
  funext x M1
  rw [wp_bind]
  congr 1
  funext z M2
  cases x with
  | str s => exact wp_ok
  | _ => exact wp_bad
theorem w_ifbad {c : Prop} [Decidable c] {d : MV} {M' : Hm} : wp (if c then .ok d M' else .bad) Q E = (c ∧ Q d M') := by
  by_cases h : c
  · rw [if_pos h, wp_ok]; simp only [h, true_and]
  · rw [if_neg h, wp_bad]; simp only [h, false_and]
@[simp ↓] theorem w_split {s : Tx} {c : Nat} : wp (fSplit (.str s) [.str [c]] M) Q E = (s.length + 2 ≤ SL ∧ Q (.ref M.length) (M ++ [.lst ((splT c s).map .str)])) := w_ifbad
@[simp ↓] theorem w_sumT {l : List MV} : wp (fSum [.tup l] M) Q E = rdO (intsOf l) fun ns => Q (.int ns.sum) M := by
  show wp (match intsOf l with
    | some ns => .ok (.int ns.sum) M
    | none => .bad) Q E = _
  cases intsOf l with
  | none => exact wp_bad
  | some ns => exact wp_ok
@[simp ↓] theorem w_max2 {i j : Int} : wp (fMax2 [.int i, .int j] M) Q E = Q (.int (if j > i then j else i)) M := wp_ok
@[simp ↓] theorem w_lenSet : wp (eLenSet a env M) Q E = wp (a env M) (fun x M1 => match x with | .tup l => rdO (intsOf l) fun ns => ns.length ≤ 4000 ∧ Q (.int (dist ns).length) M1 | _ => False) E := by
  unfold eLenSet
  rw [wp_bind]
  congr 1
  funext x M1
  cases x with
  | tup l =>
    show wp (match intsOf l with
    | some ns => if ns.length ≤ 4000 then .ok (.int (dist ns).length) M1 else .bad
    | none => .bad) Q E = rdO (intsOf l) fun ns => ns.length ≤ 4000 ∧ Q (.int (dist ns).length) M1
    cases intsOf l with
    | none => exact wp_bad
    | some ns => exact w_ifbad
  | _ => exact wp_bad
@[simp ↓] theorem w_rangeL : wp (eRangeL a env M) Q E = wp (a env M) (fun x M1 => match x with | .int n => (0 ≤ n ∧ n ≤ 1000000) ∧ Q (.ref M1.length) (M1 ++ [.lst ((List.range n.toNat).map fun k : Nat => .int k)]) | _ => False) E := by
  unfold eRangeL
  rw [wp_bind]
  congr 1
  funext x M1
  cases x with
  | int n => exact w_ifbad
  | _ => exact wp_bad
@[simp ↓] theorem w_mulAI {i j : Int} : wp (fMulA (.int i) (.int j) M) Q E = wp (fMul (.int i) (.int j) M) Q E := rfl
@[simp ↓] theorem w_mulAT {l : List MV} {k : Int} : wp (fMulA (.tup l) (.int k) M) Q E = ((l ≠ [] ∧ 2 ≤ k ∧ k ≤ 1000 ∧ l.length ≤ 1000) ∧ Q (.tup (List.replicate k.toNat l).flatten) M) := w_ifbad
@[simp ↓] theorem w_mulAS {l : Tx} {k : Int} : wp (fMulA (.str l) (.int k) M) Q E = ((l ≠ [] ∧ 2 ≤ k ∧ k ≤ 1000 ∧ l.length ≤ 1000) ∧ Q (.str (List.replicate k.toNat l).flatten) M) := w_ifbad
open PySem in
theorem w_inD {x y : MV} {g : Bool → Bool} {d : PyData} {ds : List PyData} (h1 : pyD 60 M x = some d) (h2 : pyD 60 M y = some (.tuple ds)) (h3 : (SeqAt.shaped d && SeqAt.shaped (.tuple ds)) = true) : wp (fInDG g x y M) Q E = Q (.bl (g (ds.any fun z => PyData.eqv z d))) M := by
  unfold fInDG
  simp only [h1, h2, h3, if_true]
  exact wp_ok
end
section
variable {Q : O → Env → Hm → Prop} {E : MX → Env → Hm → Prop} {M : Hm} {env : Env} {a b : Fs} {o e : Fe}
@[simp ↓] theorem wS_fldSet {c : Nat} {f : Tx} : wpS (sFldSet c f o e env M) Q E = wp (e env M) (fun d M1 => wp (o env M1) (fun x M2 => match x with | .ref k => rdIn M2 k c fun fs => fs.length < 1000 ∧ Q .nx env (M2.set k (.ins c (putM f d fs))) | _ => False) (fun x M => E x env M)) (fun x M => E x env M) := by
  unfold sFldSet
  rw [wS_st]
  congr 1
  funext d M1
  rw [wS_st]
  congr 1
  funext x M2
  cases x with
  | ref k =>
    show wpS (match M2[k]? with
      | some (.ins c' fs) => if c' = c ∧ fs.length < 1000 then .ok .nx env (M2.set k (.ins c (putM f d fs))) else .bad
      | _ => .bad) Q E = rdIn M2 k c fun fs => fs.length < 1000 ∧ Q .nx env (M2.set k (.ins c (putM f d fs)))
    unfold rdIn
    cases M2[k]? with
    | none => exact wS_bad
    | some ob =>
      cases ob with
      | ins c' fs =>
        show wpS (if c' = c ∧ fs.length < 1000 then .ok .nx env (M2.set k (.ins c (putM f d fs))) else .bad) Q E = (c' = c ∧ fs.length < 1000 ∧ Q .nx env (M2.set k (.ins c (putM f d fs))))
        by_cases h : c' = c ∧ fs.length < 1000
        · rw [if_pos h, wS_ok]; simp only [h, true_and, and_self]
        · rw [if_neg h, wS_bad, ← and_assoc]; simp only [h, false_and]
      | _ => exact wS_bad
  | _ => exact wS_bad
theorem wS_tryN {sub : Nat → Option Bool} : wpS (sTry a sub (suN b) env M) Q E = wpS (a env M) Q (fun x e1 M1 => match sub x.cls with
    | some true => wpS (b e1 M1) Q (fun _ _ _ => False)
    | some false => E x e1 M1
    | none => False) := by
  unfold sTry
  cases a env M with
  | ok o e1 M1 => simp only [wS_ok]
  | bad => simp only [wS_bad]
  | exc x e1 M1 =>
    show wpS (match sub x.cls with
      | some true => suN b e1 M1
      | some false => .exc x e1 M1
      | none => .bad) Q E = wpS (.exc x e1 M1) Q _
    rw [wS_exc]
    cases sub x.cls with
    | none => exact wS_bad
    | some k =>
      cases k with
      | false => exact wS_exc
      | true =>
        show wpS (suN b e1 M1) Q E = wpS (b e1 M1) Q _
        unfold suN
        cases b e1 M1 with
        | ok o e2 M2 => simp only [wS_ok]
        | exc y e2 M2 => simp only [wS_exc, wS_bad]
        | bad => simp only [wS_bad]
end
section
variable {Q : MV → Hm → Prop} {E : MX → Hm → Prop} {M : Hm} {env : Env} {e : Fe} {c : Ft} {g : Ftg} {it : Fi} {vs : List Nat}
@[simp ↓] theorem w_lcX : wp (eLcX it g c e vs env M) Q E = wp (it env M) (fun p M1 => wp (lcGoX p.1 g c e (wipeE env vs) p.2 0 [] M1) (fun l M2 => Q (.ref M2.length) (M2 ++ [.lst l])) E) E := by
  unfold eLcX
  rw [wp_bind]
  congr 1
  funext p M1
  rw [wp_bind]
  congr 1
  funext l M2
  exact wp_ok
theorem w_lcXM {Ql : List MV → Hm → Prop} {ni : Ni} {l : List MV} {x : MX} (f : MV → Option MV) (hw : Wk ni l M) (hl : l.length ≤ SL)
    (step : ∀ d ∈ l, wp (g d env M) (fun e1 M1 => wp (e e1 M1) (fun y M3 => f d = some y ∧ M3 = M) (fun z M3 => f d = none ∧ z = x ∧ M3 = M)) FF)
    (h1 : ∀ ys, l.mapM f = some ys → Ql ys M) (h2 : l.mapM f = none → E x M) {m : Nat} (hm : m = l.length + 1 := by simp) : wp (lcGoX ni g cYes e env m 0 [] M) Ql E := by
  subst hm
  have key : ∀ (r p acc : List MV), l = p ++ r → acc.length = p.length → (∀ ys, r.mapM f = some ys → Ql (acc ++ ys) M) → (r.mapM f = none → E x M) → wp (lcGoX ni g cYes e env (r.length + 1) p.length acc M) Ql E := by
    intro r
    induction r with
    | nil =>
      intro p acc he ha q1 q2
      show wp (match ni M p.length with
        | none => .bad
        | some none => .ok acc M
        | some (some x) => _) Ql E
      rw [hw, List.getElem?_eq_none (by rw [he]; simp)]
      have := q1 [] rfl
      rw [List.append_nil] at this
      show wp (.ok acc M) Ql E
      rw [wp_ok]
      exact this
    | cons d r ih =>
      intro p acc he ha q1 q2
      show wp (match ni M p.length with
        | none => .bad
        | some none => .ok acc M
        | some (some x) => (g x env M).bindN fun env1 M1 => (cYes env1 M1).bindN fun b M2 =>
          if b then (e env1 M2).bind fun y M3 => if acc.length < SL then lcGoX ni g cYes e env (r.length + 1) (p.length + 1) (acc ++ [y]) M3 else .bad
          else lcGoX ni g cYes e env (r.length + 1) (p.length + 1) acc M2) Ql E
      have hd : l[p.length]? = some d := by rw [he, List.getElem?_append_right (Nat.le_refl _), Nat.sub_self]; rfl
      rw [hw, hd]
      show wp ((g d env M).bindN fun env1 M1 => (cYes env1 M1).bindN fun b M2 =>
          if b then (e env1 M2).bind fun y M3 => if acc.length < SL then lcGoX ni g cYes e env (r.length + 1) (p.length + 1) (acc ++ [y]) M3 else .bad
          else lcGoX ni g cYes e env (r.length + 1) (p.length + 1) acc M2) Ql E
      have hs := step d (List.mem_of_getElem? hd)
      rw [wp_bindN]
      refine wp_mono hs (fun e1 M1 r1 => ?_) fun _ _ z => z
      rw [wp_bindN, w_cYes]
      show wp ((e e1 M1).bind fun y M3 => if acc.length < SL then lcGoX ni g cYes e env (r.length + 1) (p.length + 1) (acc ++ [y]) M3 else .bad) Ql E
      rw [wp_bind]
      refine wp_mono r1 (fun y M3 r3 => ?_) fun z M3 r3 => ?_
      · obtain ⟨r3, rfl⟩ := r3
        rw [if_pos (by have := congrArg List.length he; rw [List.length_append, List.length_cons] at this; omega)]
        have := ih (p ++ [d]) (acc ++ [y]) (by rw [he]; simp) (by simp [ha]) (fun ys hy => by
          have := q1 (y :: ys) (by rw [List.mapM_cons, r3, hy]; rfl)
          simpa using this) (fun hy => q2 (by rw [List.mapM_cons, r3, hy]; rfl))
        rw [List.length_append] at this
        exact this
      · obtain ⟨r3, rfl, rfl⟩ := r3
        exact q2 (by rw [List.mapM_cons, r3]; rfl)
  exact key l [] [] rfl rfl (by simpa using h1) h2
end
/-- data nested below n + 1, its parts up to z long, its numbers up to w -/
inductive Db (z w : Nat) : Nat → MV → Prop
  | int {n : Nat} {i : Int} (h : i.natAbs ≤ w) : Db z w n (.int i)
  | str {n : Nat} {s : Tx} (h : s.length ≤ z) (hc : ∀ c ∈ s, c < 1114112) : Db z w n (.str s)
  | tup {n : Nat} {l : List MV} (hl : l.length ≤ z) (h : ∀ d ∈ l, Db z w n d) : Db z w (n + 1) (.tup l)
theorem Db.mono {z z' w w' n : Nat} {d : MV} (hz : z ≤ z') (hw : w ≤ w') (h : Db z w n d) : ∀ m, n ≤ m → Db z' w' m d := by
  induction h with
  | int h => intro m _; exact .int (by omega)
  | str h hc => intro m _; exact .str (by omega) hc
  | tup hl h ih => intro m hm; obtain ⟨m, rfl⟩ : ∃ k, m = k + 1 := ⟨m - 1, by omega⟩; exact .tup (by omega) fun d hd => ih d hd m (by omega)
theorem Db.pu {z w n : Nat} {d : MV} (h : Db z w n d) : Pu d := by
  induction h with
  | int h => exact pu_int
  | str h hc => exact pu_str
  | tup hl h ih => exact Pu.tup ih
open PySem in
theorem Db.py {z w n : Nat} {d : MV} (h : Db z w n d) : ∀ (m : Nat) (M : Hm), n < m → ∃ x, pyD m M d = some x ∧ PyData.canLay0 x = true ∧ PyData.depth x ≤ n := by
  induction h with
  | int h => intro m M hm; obtain ⟨m, rfl⟩ : ∃ k, m = k + 1 := ⟨m - 1, by omega⟩; exact ⟨_, rfl, rfl, Nat.zero_le _⟩
  | @str n s h hc =>
    intro m M hm
    obtain ⟨m, rfl⟩ : ∃ k, m = k + 1 := ⟨m - 1, by omega⟩
    refine ⟨_, rfl, ?_, Nat.zero_le _⟩
    simp only [PyData.canLay0, PyData.strOk, T]
    simpa using hc
  | @tup n l hl h ih =>
    intro m M hm
    obtain ⟨m, rfl⟩ : ∃ k, m = k + 1 := ⟨m - 1, by omega⟩
    have all : ∀ l : List MV, (∀ d ∈ l, ∃ x, pyD m M d = some x ∧ PyData.canLay0 x = true ∧ PyData.depth x ≤ n) → ∃ xs, l.mapM (pyD m M) = some xs ∧ PyData.canLayAll0 xs = true ∧ PyData.depthAll xs ≤ n := by
      intro l
      induction l with
      | nil => intro _; exact ⟨[], rfl, rfl, Nat.zero_le _⟩
      | cons d l ihl =>
        intro q
        obtain ⟨x, h1, h2, h3⟩ := q d List.mem_cons_self
        obtain ⟨xs, g1, g2, g3⟩ := ihl fun e he => q e (List.mem_cons_of_mem _ he)
        refine ⟨x :: xs, by rw [List.mapM_cons, h1, g1]; rfl, by simp only [PyData.canLayAll0, h2, g2]; rfl, ?_⟩
        simp only [PyData.depthAll]
        omega
    obtain ⟨xs, g1, g2, g3⟩ := all l fun d hd => ih d hd m M (by omega)
    refine ⟨.tuple xs, ?_, g2, ?_⟩
    · show (l.mapM (pyD m M)).map PyData.tuple = _
      rw [g1]
      rfl
    · simp only [PyData.depth]
      omega
open PySem in
theorem Db.eq_nil {z w n : Nat} {l : List MV} {M : Hm} (h : Db z w n (.tup l)) (hn : n < 60) : eqM M (.tup l) (.tup []) = some l.isEmpty := by
  obtain ⟨x, h1, h2, h3⟩ := h.py 60 M hn
  show eqD M (.tup l) (.tup []) = _
  have h4 : pyD 60 M (.tup []) = some (.tuple []) := rfl
  have s1 : SeqAt.shaped x = true := by
    unfold SeqAt.shaped
    rw [h2, decide_eq_true (by omega)]
    rfl
  have s2 : SeqAt.shaped (.tuple []) = true := by decide
  unfold eqD
  rw [h1, h4]
  simp only [s1, s2, Bool.and_self, if_true]
  have h5 : (l.mapM (pyD 59 M)).map PyData.tuple = some x := h1
  cases hm : l.mapM (pyD 59 M) with
  | none => rw [hm] at h5; cases h5
  | some xs =>
    rw [hm] at h5
    cases h5
    have hlen := mapM_len hm
    cases l with
    | nil => cases xs with
      | nil => rfl
      | cons _ _ => cases hlen
    | cons d l => cases xs with
      | nil => cases hlen
      | cons _ _ => rfl
where
  mapM_len {α β : Type} {f : α → Option β} : ∀ {l : List α} {xs : List β}, l.mapM f = some xs → xs.length = l.length
    | [], xs, h => by cases h; rfl
    | d :: l, xs, h => by
      rw [List.mapM_cons] at h
      cases h1 : f d with
      | none => rw [h1] at h; cases h
      | some x =>
        cases h2 : l.mapM f with
        | none => rw [h1, h2] at h; cases h
        | some ys =>
          rw [h1, h2] at h
          cases h
          have := mapM_len h2
          simp [this]
end Mi
set_option maxRecDepth 100000
/-! The defs of law_k09_code in the small language (printed by gen.py). -/
namespace K09
open Mi
abbrev f_is_integer : Nat := 0
abbrev f_is_tuple : Nat := 1
abbrev f_is_small : Nat := 2
abbrev f_are_slots : Nat := 3
abbrev f_is_row : Nat := 4
abbrev f_is_code : Nat := 5
abbrev f_write_integer : Nat := 6
abbrev f_read_integer : Nat := 7
abbrev f_row_text : Nat := 8
abbrev f_write_code : Nat := 9
abbrev f_read_row : Nat := 10
abbrev f_read_code : Nat := 11
abbrev f__law_start : Nat := 12
abbrev f__law_draw : Nat := 13
abbrev f__law_one_of : Nat := 14
abbrev f__law_shuffled : Nat := 15
abbrev f__law_is_int : Nat := 16
abbrev f__law_same : Nat := 17
abbrev f__law_says : Nat := 18
abbrev f__law_bent : Nat := 19
abbrev f__law_some_row : Nat := 20
abbrev f__law_is_below : Nat := 21
abbrev f__law_is_row : Nat := 22
abbrev f__law_is_right : Nat := 23
abbrev f__law_row_text : Nat := 24
abbrev f__law_refuses : Nat := 25
abbrev f_law : Nat := 26
abbrev f_Sizes___init__ : Nat := 27
abbrev f_Sizes_fits : Nat := 28
abbrev c_BASE : MV := .int 10000000000000000000000000000000000000000000000000000000000000000
abbrev c_CALL : MV := .str [99, 97, 108, 108]
abbrev c_DIGITS : MV := .str [48, 49, 50, 51, 52, 53, 54, 55, 56, 57]
abbrev c_MOST_CODE : MV := .int 400
abbrev c_MOST_NUMBER : MV := .int 1000000000000
def d_KINDS_ : List (Tx × MV) := [([112, 117, 115, 104], .str [105, 110, 116, 101, 103, 101, 114]), ([108, 111, 97, 100], .str [108, 111, 99, 97, 108]), ([115, 116, 111, 114, 101], .str [108, 111, 99, 97, 108]), ([97, 100, 100], .str []), ([115, 117, 98], .str []), ([115, 99, 97, 108, 101], .str [105, 110, 116, 101, 103, 101, 114]), ([100, 105, 118], .str [100, 105, 118, 105, 115, 111, 114]), ([109, 111, 100], .str [100, 105, 118, 105, 115, 111, 114]), ([114, 101, 97, 100], .str [115, 108, 111, 116]), ([119, 114, 105, 116, 101], .str [115, 108, 111, 116]), ([108, 101, 110, 103, 116, 104], .str [115, 108, 111, 116]), ([110, 101, 119], .str [115, 108, 111, 116]), ([106, 117, 109, 112], .str [112, 108, 97, 99, 101]), ([108, 101, 115, 115], .str [112, 108, 97, 99, 101]), ([115, 97, 109, 101], .str [112, 108, 97, 99, 101]), ([99, 97, 108, 108], .str [99, 97, 108, 108]), ([108, 111, 111, 112], .str []), ([116, 101, 108, 108], .str []), ([103, 114, 97, 98], .str [108, 111, 99, 107]), ([100, 114, 111, 112], .str [108, 111, 99, 107]), ([103, 101, 116], .str [110, 117, 109, 98, 101, 114]), ([112, 117, 116], .str [110, 117, 109, 98, 101, 114]), ([115, 101, 110, 100], .str [99, 104, 97, 110, 110, 101, 108]), ([116, 97, 107, 101], .str [99, 104, 97, 110, 110, 101, 108])]
def d_MANY_ : List (Tx × MV) := [([], .int 0), ([110, 117, 109, 98, 101, 114], .int 2)]
def d_SIZES_ : List (Tx × MV) := [([112, 117, 115, 104], .int 1), ([108, 111, 97, 100], .int 1), ([115, 116, 111, 114, 101], .int 1), ([97, 100, 100], .int 0), ([115, 117, 98], .int 0), ([115, 99, 97, 108, 101], .int 1), ([100, 105, 118], .int 1), ([109, 111, 100], .int 1), ([114, 101, 97, 100], .int 1), ([119, 114, 105, 116, 101], .int 1), ([108, 101, 110, 103, 116, 104], .int 1), ([110, 101, 119], .int 1), ([106, 117, 109, 112], .int 1), ([108, 101, 115, 115], .int 1), ([115, 97, 109, 101], .int 1), ([99, 97, 108, 108], .int 2), ([108, 111, 111, 112], .int 0), ([116, 101, 108, 108], .int 0), ([103, 114, 97, 98], .int 1), ([100, 114, 111, 112], .int 1), ([103, 101, 116], .int 2), ([112, 117, 116], .int 2), ([115, 101, 110, 100], .int 1), ([116, 97, 107, 101], .int 1)]
abbrev x_AllgoonError : Nat := 1
abbrev x_BadText : Nat := 2
def sub_BadText : Nat → Option Bool
  | 1 => some false
  | 2 => some true
  | _ => none
/-- is_integer(datum); slots datum -/
def b_is_integer (G : Ga) : Fs :=
sRet (eAnd (eFn (fIsi "int") (aCons (eVar 0) aNil)) (eT (cNot (cB (eFn (fIsi "bool") (aCons (eVar 0) aNil))))))
def d_is_integer : Df := ⟨1, 1, b_is_integer⟩
/-- is_tuple(datum, many); slots datum, many -/
def b_is_tuple (G : Ga) : Fs :=
sRet (eAnd (eFn (fIsi "tuple") (aCons (eVar 0) aNil)) (eOp fEq (eFn fLen (aCons (eVar 0) aNil)) (eVar 1)))
def d_is_tuple : Df := ⟨2, 2, b_is_tuple⟩
/-- is_small(datum); slots datum -/
def b_is_small (G : Ga) : Fs :=
sRet (eAnd (eCall G f_is_integer (aCons (eVar 0) aNil)) (eChain fLe fLe (eC (.int 0)) (eVar 0) (eC c_MOST_NUMBER)))
def d_is_small : Df := ⟨1, 1, b_is_small⟩
/-- are_slots(datum, slots); slots datum, slots, slot -/
def b_are_slots (G : Ga) : Fs :=
sSeq (sIf (cOr (cNot (cV (eFn (fIsi "tuple") (aCons (eVar 0) aNil)))) (cNot (cV (eGc (eFn fAll (aCons (eLc (iA (eVar 0)) (gN 2) (cYes) (eAnd (eCall G f_is_small (aCons (eVar 2) aNil)) (eOp fLt (eVar 2) (eVar 1))) [2]) aNil)))))) (
sRet (eC (.bl false))) (
sNx)) (
sRet (eOp fEq (eLenSet (eVar 0)) (eFn fLen (aCons (eVar 0) aNil))))
def d_are_slots : Df := ⟨2, 3, b_are_slots⟩
/-- is_row(datum); slots datum -/
def b_is_row (G : Ga) : Fs :=
sSeq (sIf (cOr (cNot (cV (eFn (fIsi "tuple") (aCons (eVar 0) aNil)))) (cOr (cB (eOp fEq (eVar 0) (eTup (aNil)))) (cOr (cNot (cV (eFn (fIsi "str") (aCons (eOp fIx (eVar 0) (eC (.int 0))) aNil)))) (cB (eKdIn (d_SIZES_.map (·.1)) not (eOp fIx (eVar 0) (eC (.int 0)))))))) (
sRet (eC (.bl false))) (
sNx)) (
sRet (eCall G f_is_tuple (aCons (eVar 0) (aCons (eOp fAdd (eC (.int 1)) (eKd d_SIZES_ (eOp fIx (eVar 0) (eC (.int 0))))) aNil))))
def d_is_row : Df := ⟨1, 1, b_is_row⟩
/-- is_code(datum, locals_count, slots, functions, locks, channels); slots datum, locals_count, slots, functions, locks, channels, sizes, row -/
def b_is_code (G : Ga) : Fs :=
sSeq (sIf (cOr (cNot (cV (eFn (fIsi "tuple") (aCons (eVar 0) aNil)))) (cNot (cB (eChain fLe fLe (eC (.int 1)) (eFn fLen (aCons (eVar 0) aNil)) (eC c_MOST_CODE))))) (
sRet (eC (.bl false))) (
sNx)) (
sSeq (sSet 6 (eNew 0 G f_Sizes___init__ (aCons (eFn fLen (aCons (eVar 0) aNil)) (aCons (eVar 1) (aCons (eVar 2) (aCons (eVar 3) (aCons (eVar 4) (aCons (eVar 5) aNil)))))))) (
sRet (eGc (eFn fAll (aCons (eLc (iA (eVar 0)) (gN 7) (cYes) (eAnd (eCall G f_is_row (aCons (eVar 7) aNil)) (eMth 0 G f_Sizes_fits [102, 105, 116, 115] (eVar 6) (aCons (eVar 7) aNil))) [7]) aNil)))))
def d_is_code : Df := ⟨6, 8, b_is_code⟩
/-- write_integer(n); slots n, chunks, low -/
def b_write_integer (G : Ga) : Fs :=
sSeq (sIf (cB (eOp fLt (eVar 0) (eC (.int 0)))) (
sRet (eOp fAdd (eC (.str [45])) (eCall G f_write_integer (aCons (eUn fNeg (eVar 0)) aNil)))) (
sNx)) (
sSeq (sSet 1 (eLst (aNil))) (
sSeq (sWhl (cB (eOp fGe (eVar 0) (eC c_BASE))) (
sSeq (sAsg (gT 2 (gsCons (gN 0) (gsCons (gN 2) (gsNil)))) (eFn fDivmod (aCons (eVar 0) (aCons (eC c_BASE) aNil)))) (
sEx (eMet .list fAppend (eVar 1) (aCons (eMet .str fZfill (eFn fStr (aCons (eVar 2) aNil)) (aCons (eC (.int 64)) aNil)) aNil))))) (
sSeq (sEx (eMet .list fAppend (eVar 1) (aCons (eFn fStr (aCons (eVar 0) aNil)) aNil))) (
sRet (eMet .str fJoin (eC (.str [])) (aCons (eUn fRevA (eVar 1)) aNil))))))
def d_write_integer : Df := ⟨1, 3, b_write_integer⟩
/-- read_integer(text); slots text, digits, char, head, n, start -/
def b_read_integer (G : Ga) : Fs :=
sSeq (sSet 1 (eVar 0)) (
sSeq (sIf (cB (eOp fEq (eSl fSl (eVar 0) (oNone) (oSome (eC (.int 1)))) (eC (.str [45])))) (
sSet 1 (eSl fSl (eVar 0) (oSome (eC (.int 1))) (oNone))) (
sNx)) (
sSeq (sIf (cOr (cB (eOp fEq (eVar 1) (eC (.str [])))) (cAnd (cB (eOp fEq (eOp fIx (eVar 1) (eC (.int 0))) (eC (.str [48])))) (cB (eOp fNe (eVar 0) (eC (.str [48])))))) (
sRaiseC x_BadText) (
sNx)) (
sSeq (sFor (iA (eVar 1)) (gN 2) (
sIf (cB (eOp fNotIn (eVar 2) (eC c_DIGITS))) (
sRaiseC x_BadText) (
sNx))) (
sSeq (sSet 3 (eOp fMod (eFn fLen (aCons (eVar 1) aNil)) (eC (.int 64)))) (
sSeq (sSet 4 (eC (.int 0))) (
sSeq (sIf (cB (eOp fGt (eVar 3) (eC (.int 0)))) (
sSet 4 (eFn fIntOf (aCons (eSl fSl (eVar 1) (oNone) (oSome (eVar 3))) aNil))) (
sNx)) (
sSeq (sFor (iRg rg3 (aCons (eVar 3) (aCons (eFn fLen (aCons (eVar 1) aNil)) (aCons (eC (.int 64)) aNil)))) (gN 5) (
sSet 4 (eOp fAdd (eOp fMul (eVar 4) (eC c_BASE)) (eFn fIntOf (aCons (eSl fSl (eVar 1) (oSome (eVar 5)) (oSome (eOp fAdd (eVar 5) (eC (.int 64))))) aNil))))) (
sSeq (sIf (cB (eOp fEq (eOp fIx (eVar 0) (eC (.int 0))) (eC (.str [45])))) (
sRet (eUn fNeg (eVar 4))) (
sNx)) (
sRet (eVar 4))))))))))
def d_read_integer : Df := ⟨1, 6, b_read_integer⟩
/-- row_text(one); slots one, slot, number -/
def b_row_text (G : Ga) : Fs :=
sSeq (sIf (cB (eOp fEq (eOp fIx (eVar 0) (eC (.int 0))) (eC c_CALL))) (
sRet (eGc (eMet .str fJoin (eC (.str [32])) (aCons (eOp fAdd (eLst (aCons (eC c_CALL) (aCons (eCall G f_write_integer (aCons (eOp fIx (eVar 0) (eC (.int 1))) aNil)) aNil))) (eLc (iA (eOp fIx (eVar 0) (eC (.int 2)))) (gN 1) (cYes) (eCall G f_write_integer (aCons (eVar 1) aNil)) [1])) aNil)))) (
sNx)) (
sRet (eGc (eMet .str fJoin (eC (.str [32])) (aCons (eOp fAdd (eLst (aCons (eOp fIx (eVar 0) (eC (.int 0))) aNil)) (eLc (iA (eSl fSl (eVar 0) (oSome (eC (.int 1))) (oNone))) (gN 2) (cYes) (eCall G f_write_integer (aCons (eVar 2) aNil)) [2])) aNil))))
def d_row_text : Df := ⟨1, 3, b_row_text⟩
/-- write_code(code); slots code, one -/
def b_write_code (G : Ga) : Fs :=
sRet (eGc (eMet .str fJoin (eC (.str [])) (aCons (eLc (iA (eVar 0)) (gN 1) (cYes) (eOp fAdd (eCall G f_row_text (aCons (eVar 1) aNil)) (eC (.str [10]))) [1]) aNil)))
def d_write_code : Df := ⟨1, 2, b_write_code⟩
/-- read_row(line); slots line, words, kind, numbers, word -/
def b_read_row (G : Ga) : Fs :=
sSeq (sSet 1 (eMet .str fSplit (eVar 0) (aCons (eC (.str [32])) aNil))) (
sSeq (sSet 2 (eKdGet d_KINDS_ (eOp fIx (eVar 1) (eC (.int 0))) (eC (.str [110, 111, 110, 101])))) (
sSeq (sSet 3 (eLcX (iA (eSl fSl (eVar 1) (oSome (eC (.int 1))) (oNone))) (gN 4) (cYes) (eCall G f_read_integer (aCons (eVar 4) aNil)) [4])) (
sSeq (sIf (cB (eOp fEq (eVar 2) (eC (.str [99, 97, 108, 108])))) (
sSeq (sIf (cB (eOp fEq (eVar 3) (eLst (aNil)))) (
sRaiseC x_BadText) (
sNx)) (
sRet (eTup (aCons (eC c_CALL) (aCons (eOp fIx (eVar 3) (eC (.int 0))) (aCons (eFn fTuple (aCons (eSl fSl (eVar 3) (oSome (eC (.int 1))) (oNone)) aNil)) aNil)))))) (
sNx)) (
sSeq (sIf (cOr (cB (eOp fEq (eVar 2) (eC (.str [110, 111, 110, 101])))) (cB (eOp fNe (eFn fLen (aCons (eVar 3) aNil)) (eKdGet d_MANY_ (eVar 2) (eC (.int 1)))))) (
sRaiseC x_BadText) (
sNx)) (
sRet (eOp fAdd (eTup (aCons (eOp fIx (eVar 1) (eC (.int 0))) aNil)) (eFn fTuple (aCons (eVar 3) aNil))))))))
def d_read_row : Df := ⟨1, 5, b_read_row⟩
/-- read_code(text); slots text, line -/
def b_read_code (G : Ga) : Fs :=
sSeq (sIf (cOr (cB (eOp fEq (eVar 0) (eC (.str [])))) (cB (eOp fNe (eOp fIx (eVar 0) (eUn fNeg (eC (.int 1)))) (eC (.str [10]))))) (
sRaiseC x_BadText) (
sNx)) (
sRet (eGc (eFn fTuple (aCons (eLcX (iA (eSl fSl (eMet .str fSplit (eVar 0) (aCons (eC (.str [10])) aNil)) (oNone) (oSome (eUn fNeg (eC (.int 1)))))) (gN 1) (cYes) (eCall G f_read_row (aCons (eVar 1) aNil)) [1]) aNil))))
def d_read_code : Df := ⟨1, 2, b_read_code⟩
/-- _law_start(script); slots script -/
def b__law_start (G : Ga) : Fs :=
sRet (eLst (aCons (eFn fListA (aCons (eVar 0) aNil)) (aCons (eC (.int 0)) (aCons (eC (.int 0)) (aCons (eC (.int 0)) aNil)))))
def d__law_start : Df := ⟨1, 1, b__law_start⟩
/-- _law_draw(state, most); slots state, most, found, cell, mixed -/
def b__law_draw (G : Ga) : Fs :=
sSeq (sAsg (gIx fSetL (eVar 0) (eC (.int 3))) (eOp fAdd (eOp fIx (eVar 0) (eC (.int 3))) (eC (.int 1)))) (
sSeq (sIf (cB (eOp fGt (eOp fIx (eVar 0) (eC (.int 2))) (eC (.int 0)))) (
sSeq (sSet 2 (eOp fMod (eFn fIntOf (aCons (eOp fIx (eVar 0) (eC (.int 2))) aNil)) (eVar 1))) (
sSeq (sAsg (gIx fSetL (eVar 0) (eC (.int 2))) (eOp fDiv (eOp fIx (eVar 0) (eC (.int 2))) (eVar 1))) (
sRet (eVar 2)))) (
sNx)) (
sSeq (sSet 3 (eC (.int 0))) (
sSeq (sIf (cB (eOp fGt (eFn fLen (aCons (eOp fIx (eVar 0) (eC (.int 0))) aNil)) (eC (.int 0)))) (
sSet 3 (eFn fAbs (aCons (eOp fIxA (eOp fIx (eVar 0) (eC (.int 0))) (eOp fMod (eFn fIntOf (aCons (eOp fIx (eVar 0) (eC (.int 1))) aNil)) (eFn fLen (aCons (eOp fIx (eVar 0) (eC (.int 0))) aNil)))) aNil))) (
sNx)) (
sSeq (sAsg (gIx fSetL (eVar 0) (eC (.int 1))) (eOp fAdd (eOp fIx (eVar 0) (eC (.int 1))) (eC (.int 1)))) (
sSeq (sIf (cB (eOp fGe (eVar 3) (eOp fPow (eC (.int 10)) (eC (.int 18))))) (
sSeq (sAsg (gIx fSetL (eVar 0) (eC (.int 2))) (eOp fDiv (eVar 3) (eVar 1))) (
sRet (eOp fMod (eFn fIntOf (aCons (eVar 3) aNil)) (eVar 1)))) (
sNx)) (
sSeq (sSet 4 (eOp fMod (eFn fIntOf (aCons (eOp fAdd (eOp fMul (eOp fAdd (eVar 3) (eC (.int 1))) (eC (.int 48271))) (eOp fMul (eOp fIx (eVar 0) (eC (.int 3))) (eC (.int 69621)))) aNil)) (eC (.int 2147483647)))) (
sSeq (sSet 4 (eOp fMod (eFn fIntOf (aCons (eOp fAdd (eOp fAdd (eOp fMul (eVar 4) (eC (.int 16807))) (eOp fDiv (eVar 3) (eC (.int 97)))) (eOp fIx (eVar 0) (eC (.int 3)))) aNil)) (eC (.int 2147483629)))) (
sRet (eOp fMod (eOp fDiv (eVar 4) (eC (.int 11))) (eVar 1))))))))))
def d__law_draw : Df := ⟨2, 5, b__law_draw⟩
/-- _law_one_of(state, items); slots state, items -/
def b__law_one_of (G : Ga) : Fs :=
sRet (eOp fIxA (eVar 1) (eCall G f__law_draw (aCons (eVar 0) (aCons (eFn fLen (aCons (eVar 1) aNil)) aNil))))
def d__law_one_of : Df := ⟨2, 2, b__law_one_of⟩
/-- _law_shuffled(state, items); slots state, items, found, item -/
def b__law_shuffled (G : Ga) : Fs :=
sSeq (sSet 2 (eLst (aNil))) (
sSeq (sFor (iA (eVar 1)) (gN 3) (
sEx (eMet .list fInsert (eVar 2) (aCons (eCall G f__law_draw (aCons (eVar 0) (aCons (eOp fAdd (eFn fLen (aCons (eVar 2) aNil)) (eC (.int 1))) aNil))) (aCons (eVar 3) aNil))))) (
sRet (eVar 2)))
def d__law_shuffled : Df := ⟨2, 4, b__law_shuffled⟩
/-- _law_is_int(x); slots x -/
def b__law_is_int (G : Ga) : Fs :=
sRet (eAnd (eFn (fIsi "int") (aCons (eVar 0) aNil)) (eT (cNot (cB (eFn (fIsi "bool") (aCons (eVar 0) aNil))))))
def d__law_is_int : Df := ⟨1, 1, b__law_is_int⟩
/-- _law_same(x, y); slots x, y, k -/
def b__law_same (G : Ga) : Fs :=
sSeq (sIf (cV (eFn (fIsi "tuple") (aCons (eVar 1) aNil))) (
sSeq (sIf (cOr (cNot (cV (eFn (fIsi "tuple") (aCons (eVar 0) aNil)))) (cB (eOp fNe (eFn fLen (aCons (eVar 0) aNil)) (eFn fLen (aCons (eVar 1) aNil))))) (
sRet (eC (.bl false))) (
sNx)) (
sRet (eGc (eFn fAll (aCons (eLc (iRg rg1 (aCons (eFn fLen (aCons (eVar 1) aNil)) aNil)) (gN 2) (cYes) (eCall G f__law_same (aCons (eOp fIxA (eVar 0) (eVar 2)) (aCons (eOp fIxA (eVar 1) (eVar 2)) aNil))) [2]) aNil))))) (
sNx)) (
sSeq (sIf (cV (eFn (fIsi "str") (aCons (eVar 1) aNil))) (
sRet (eAnd (eFn (fIsi "str") (aCons (eVar 0) aNil)) (eOp fEq (eVar 0) (eVar 1)))) (
sNx)) (
sRet (eAnd (eCall G f__law_is_int (aCons (eVar 0) aNil)) (eOp fEq (eVar 0) (eVar 1)))))
def d__law_same : Df := ⟨2, 3, b__law_same⟩
/-- _law_says(found, due); slots found, due -/
def b__law_says (G : Ga) : Fs :=
sSeq (sIf (cV (eVar 1)) (
sRet (eOp fIs (eVar 0) (eC (.bl true)))) (
sNx)) (
sRet (eOp fIs (eVar 0) (eC (.bl false))))
def d__law_says : Df := ⟨2, 2, b__law_says⟩
/-- _law_bent(state, datum, depth); slots state, datum, depth, at, other -/
def b__law_bent (G : Ga) : Fs :=
sSeq (sIf (cAnd (cV (eFn (fIsi "tuple") (aCons (eVar 1) aNil))) (cAnd (cB (eOp fGt (eFn fLen (aCons (eVar 1) aNil)) (eC (.int 0)))) (cAnd (cB (eOp fLt (eVar 2) (eC (.int 12)))) (cB (eOp fGt (eCall G f__law_draw (aCons (eVar 0) (aCons (eC (.int 6)) aNil))) (eC (.int 0))))))) (
sSeq (sSet 3 (eCall G f__law_draw (aCons (eVar 0) (aCons (eFn fLen (aCons (eVar 1) aNil)) aNil)))) (
sRet (eOp fAdd (eOp fAdd (eSl fSl (eVar 1) (oNone) (oSome (eVar 3))) (eTup (aCons (eCall G f__law_bent (aCons (eVar 0) (aCons (eOp fIxA (eVar 1) (eVar 3)) (aCons (eOp fAdd (eVar 2) (eC (.int 1))) aNil)))) aNil))) (eSl fSl (eVar 1) (oSome (eOp fAdd (eVar 3) (eC (.int 1)))) (oNone))))) (
sNx)) (
sSeq (sIf (cV (eFn (fIsi "tuple") (aCons (eVar 1) aNil))) (
sSeq (sSet 3 (eCall G f__law_draw (aCons (eVar 0) (aCons (eOp fAdd (eFn fLen (aCons (eVar 1) aNil)) (eC (.int 1))) aNil)))) (
sSeq (sSet 4 (eLst (aCons (eOp fAdd (eSl fSl (eVar 1) (oNone) (oSome (eVar 3))) (eSl fSl (eVar 1) (oSome (eOp fAdd (eVar 3) (eC (.int 1)))) (oNone))) (aCons (eOp fAdd (eOp fAdd (eSl fSl (eVar 1) (oNone) (oSome (eVar 3))) (eSl fSl (eVar 1) (oSome (eVar 3)) (oSome (eOp fAdd (eVar 3) (eC (.int 1)))))) (eSl fSl (eVar 1) (oSome (eVar 3)) (oNone))) (aCons (eOp fAdd (eVar 1) (eTup (aCons (eC (.int 0)) aNil))) (aCons (eTup (aNil)) (aCons (eC (.int 0)) aNil))))))) (
sRet (eCall G f__law_one_of (aCons (eVar 0) (aCons (eOp fAdd (eVar 4) (eLst (aCons (eOp fAdd (eSl fSl (eVar 1) (oSome (eVar 3)) (oNone)) (eSl fSl (eVar 1) (oNone) (oSome (eVar 3)))) (aCons (eUn fRevA (eVar 1)) (aCons (eC (.str [114, 105, 110, 103])) (aCons (eTup (aCons (eVar 1) aNil)) aNil)))))) aNil)))))) (
sNx)) (
sSeq (sIf (cV (eFn (fIsi "str") (aCons (eVar 1) aNil))) (
sRet (eCall G f__law_one_of (aCons (eVar 0) (aCons (eLst (aCons (eC (.str [102, 111, 114, 109, 115])) (aCons (eC (.str [114, 105, 110, 103])) (aCons (eC (.str [])) (aCons (eOp fAdd (eVar 1) (eC (.str [120]))) (aCons (eSl fSl (eVar 1) (oSome (eC (.int 1))) (oNone)) (aCons (eSl fSl (eVar 1) (oNone) (oSome (eUn fNeg (eC (.int 1))))) (aCons (eC (.int 0)) (aCons (eTup (aNil)) aNil))))))))) aNil)))) (
sNx)) (
sRet (eCall G f__law_one_of (aCons (eVar 0) (aCons (eLst (aCons (eOp fAdd (eVar 1) (eC (.int 1))) (aCons (eOp fSub (eVar 1) (eC (.int 1))) (aCons (eUn fNeg (eVar 1)) (aCons (eOp fMul (eC (.int 2)) (eVar 1)) (aCons (eC (.int 0)) (aCons (eFn fStr (aCons (eVar 1) aNil)) (aCons (eTup (aCons (eVar 1) aNil)) aNil)))))))) aNil))))))
def d__law_bent : Df := ⟨3, 5, b__law_bent⟩
/-- _law_some_row(state, places, sizes); slots state, places, sizes, inner, slots, called, locks, ways_out, pick, number, some, lock, k -/
def b__law_some_row (G : Ga) : Fs :=
sSeq (sAsg (gT 5 (gsCons (gN 3) (gsCons (gN 4) (gsCons (gN 5) (gsCons (gN 6) (gsCons (gN 7) (gsNil))))))) (eVar 2)) (
sSeq (sSet 8 (eCall G f__law_draw (aCons (eVar 0) (aCons (eC (.int 14)) aNil)))) (
sSeq (sSet 9 (eOp fIxA (eLst (aCons (eOp fSub (eCall G f__law_draw (aCons (eVar 0) (aCons (eC (.int 21)) aNil))) (eC (.int 10))) (aCons (eOp fMul (eOp fIxA (eLst (aCons (eC (.int 1)) (aCons (eUn fNeg (eC (.int 1))) aNil))) (eCall G f__law_draw (aCons (eVar 0) (aCons (eC (.int 2)) aNil)))) (eOp fPow (eC (.int 10)) (eC (.int 12)))) aNil))) (eFn fIntOf (aCons (eOp fEq (eCall G f__law_draw (aCons (eVar 0) (aCons (eC (.int 5)) aNil))) (eC (.int 0))) aNil)))) (
sSeq (sIf (cB (eOp fEq (eVar 8) (eC (.int 0)))) (
sRet (eTup (aCons (eCall G f__law_one_of (aCons (eVar 0) (aCons (eLst (aCons (eC (.str [112, 117, 115, 104])) (aCons (eC (.str [115, 99, 97, 108, 101])) aNil))) aNil))) (aCons (eVar 9) aNil)))) (
sNx)) (
sSeq (sIf (cB (eOp fEq (eVar 8) (eC (.int 1)))) (
sRet (eTup (aCons (eCall G f__law_one_of (aCons (eVar 0) (aCons (eLst (aCons (eC (.str [100, 105, 118])) (aCons (eC (.str [109, 111, 100])) aNil))) aNil))) (aCons (eOp fAdd (eC (.int 2)) (eCall G f__law_draw (aCons (eVar 0) (aCons (eC (.int 9)) aNil)))) aNil)))) (
sNx)) (
sSeq (sIf (cAnd (cB (eOp fIn (eVar 8) (eLst (aCons (eC (.int 2)) (aCons (eC (.int 3)) aNil))))) (cB (eOp fGt (eVar 3) (eC (.int 0))))) (
sRet (eTup (aCons (eOp fIxA (eLst (aCons (eC (.str [108, 111, 97, 100])) (aCons (eC (.str [115, 116, 111, 114, 101])) aNil))) (eOp fSub (eVar 8) (eC (.int 2)))) (aCons (eCall G f__law_draw (aCons (eVar 0) (aCons (eVar 3) aNil))) aNil)))) (
sNx)) (
sSeq (sIf (cAnd (cB (eOp fIn (eVar 8) (eLst (aCons (eC (.int 4)) (aCons (eC (.int 5)) aNil))))) (cB (eOp fGt (eVar 4) (eC (.int 0))))) (
sRet (eTup (aCons (eCall G f__law_one_of (aCons (eVar 0) (aCons (eLst (aCons (eC (.str [114, 101, 97, 100])) (aCons (eC (.str [119, 114, 105, 116, 101])) (aCons (eC (.str [108, 101, 110, 103, 116, 104])) (aCons (eC (.str [110, 101, 119])) aNil))))) aNil))) (aCons (eCall G f__law_draw (aCons (eVar 0) (aCons (eVar 4) aNil))) aNil)))) (
sNx)) (
sSeq (sIf (cB (eOp fEq (eVar 8) (eC (.int 6)))) (
sRet (eTup (aCons (eCall G f__law_one_of (aCons (eVar 0) (aCons (eLst (aCons (eC (.str [106, 117, 109, 112])) (aCons (eC (.str [108, 101, 115, 115])) (aCons (eC (.str [115, 97, 109, 101])) aNil)))) aNil))) (aCons (eCall G f__law_draw (aCons (eVar 0) (aCons (eVar 1) aNil))) aNil)))) (
sNx)) (
sSeq (sIf (cAnd (cB (eOp fEq (eVar 8) (eC (.int 7)))) (cB (eOp fGt (eVar 5) (eC (.int 0))))) (
sSeq (sSet 10 (eSl fSl (eCall G f__law_shuffled (aCons (eVar 0) (aCons (eRangeL (eVar 4)) aNil))) (oNone) (oSome (eCall G f__law_draw (aCons (eVar 0) (aCons (eOp fAdd (eVar 4) (eC (.int 1))) aNil)))))) (
sRet (eTup (aCons (eC (.str [99, 97, 108, 108])) (aCons (eCall G f__law_draw (aCons (eVar 0) (aCons (eVar 5) aNil))) (aCons (eFn fTuple (aCons (eVar 10) aNil)) aNil)))))) (
sNx)) (
sSeq (sIf (cAnd (cB (eOp fIn (eVar 8) (eLst (aCons (eC (.int 8)) (aCons (eC (.int 9)) aNil))))) (cB (eOp fGt (eFn fLen (aCons (eVar 6) aNil)) (eC (.int 0))))) (
sRet (eTup (aCons (eCall G f__law_one_of (aCons (eVar 0) (aCons (eLst (aCons (eC (.str [103, 114, 97, 98])) (aCons (eC (.str [100, 114, 111, 112])) aNil))) aNil))) (aCons (eCall G f__law_draw (aCons (eVar 0) (aCons (eFn fLen (aCons (eVar 6) aNil)) aNil))) aNil)))) (
sNx)) (
sSeq (sIf (cAnd (cB (eOp fIn (eVar 8) (eLst (aCons (eC (.int 10)) (aCons (eC (.int 11)) aNil))))) (cB (eOp fGt (eFn fSum (aCons (eVar 6) aNil)) (eC (.int 0))))) (
sSeq (sSet 11 (eCall G f__law_one_of (aCons (eVar 0) (aCons (eLc (iRg rg1 (aCons (eFn fLen (aCons (eVar 6) aNil)) aNil)) (gN 12) (cB (eOp fGt (eOp fIxA (eVar 6) (eVar 12)) (eC (.int 0)))) (eVar 12) [12]) aNil)))) (
sRet (eTup (aCons (eOp fIxA (eLst (aCons (eC (.str [103, 101, 116])) (aCons (eC (.str [112, 117, 116])) aNil))) (eOp fSub (eVar 8) (eC (.int 10)))) (aCons (eVar 11) (aCons (eCall G f__law_draw (aCons (eVar 0) (aCons (eOp fIxA (eVar 6) (eVar 11)) aNil))) aNil)))))) (
sNx)) (
sSeq (sIf (cAnd (cB (eOp fEq (eVar 8) (eC (.int 12)))) (cB (eOp fGt (eVar 7) (eC (.int 0))))) (
sRet (eTup (aCons (eCall G f__law_one_of (aCons (eVar 0) (aCons (eLst (aCons (eC (.str [115, 101, 110, 100])) (aCons (eC (.str [116, 97, 107, 101])) aNil))) aNil))) (aCons (eCall G f__law_draw (aCons (eVar 0) (aCons (eVar 7) aNil))) aNil)))) (
sNx)) (
sRet (eTup (aCons (eCall G f__law_one_of (aCons (eVar 0) (aCons (eLst (aCons (eC (.str [97, 100, 100])) (aCons (eC (.str [115, 117, 98])) (aCons (eC (.str [108, 111, 111, 112])) (aCons (eC (.str [116, 101, 108, 108])) aNil))))) aNil))) aNil))))))))))))))
def d__law_some_row : Df := ⟨3, 13, b__law_some_row⟩
/-- _law_is_below(x, most); slots x, most -/
def b__law_is_below (G : Ga) : Fs :=
sRet (eAnd (eCall G f__law_is_int (aCons (eVar 0) aNil)) (eAnd (eOp fLe (eC (.int 0)) (eVar 0)) (eOp fLt (eVar 0) (eVar 1))))
def d__law_is_below : Df := ⟨2, 2, b__law_is_below⟩
/-- _law_is_row(row, places, sizes); slots row, places, sizes, inner, slots, called, locks, ways_out, word, unlike, bounds, k, x -/
def b__law_is_row (G : Ga) : Fs :=
sSeq (sAsg (gT 5 (gsCons (gN 3) (gsCons (gN 4) (gsCons (gN 5) (gsCons (gN 6) (gsCons (gN 7) (gsNil))))))) (eVar 2)) (
sSeq (sIf (cOr (cNot (cV (eFn (fIsi "tuple") (aCons (eVar 0) aNil)))) (cOr (cB (eOp fEq (eVar 0) (eTup (aNil)))) (cNot (cV (eFn (fIsi "str") (aCons (eOp fIx (eVar 0) (eC (.int 0))) aNil)))))) (
sRet (eC (.bl false))) (
sNx)) (
sSeq (sSet 8 (eOp fIx (eVar 0) (eC (.int 0)))) (
sSeq (sIf (cB (eOp fIn (eVar 8) (eLst (aCons (eC (.str [97, 100, 100])) (aCons (eC (.str [115, 117, 98])) (aCons (eC (.str [108, 111, 111, 112])) (aCons (eC (.str [116, 101, 108, 108])) aNil))))))) (
sRet (eOp fEq (eFn fLen (aCons (eVar 0) aNil)) (eC (.int 1)))) (
sNx)) (
sSeq (sIf (cB (eOp fEq (eVar 8) (eC (.str [99, 97, 108, 108])))) (
sSeq (sIf (cOr (cB (eOp fNe (eFn fLen (aCons (eVar 0) aNil)) (eC (.int 3)))) (cOr (cNot (cV (eCall G f__law_is_below (aCons (eOp fIx (eVar 0) (eC (.int 1))) (aCons (eVar 5) aNil))))) (cNot (cV (eFn (fIsi "tuple") (aCons (eOp fIx (eVar 0) (eC (.int 2))) aNil)))))) (
sRet (eC (.bl false))) (
sNx)) (
sSeq (sSet 9 (eLc (iRg rg1 (aCons (eFn fLen (aCons (eOp fIx (eVar 0) (eC (.int 2))) aNil)) aNil)) (gN 11) (cB (eOp (fInDG not) (eOp fIxA (eOp fIx (eVar 0) (eC (.int 2))) (eVar 11)) (eSl fSl (eOp fIx (eVar 0) (eC (.int 2))) (oNone) (oSome (eVar 11))))) (eVar 11) [11])) (
sRet (eAnd (eOp fEq (eFn fLen (aCons (eVar 9) aNil)) (eFn fLen (aCons (eOp fIx (eVar 0) (eC (.int 2))) aNil))) (eGc (eFn fAll (aCons (eLc (iA (eOp fIx (eVar 0) (eC (.int 2)))) (gN 12) (cYes) (eCall G f__law_is_below (aCons (eVar 12) (aCons (eVar 4) aNil))) [12]) aNil))))))) (
sNx)) (
sSeq (sIf (cB (eOp fIn (eVar 8) (eLst (aCons (eC (.str [103, 101, 116])) (aCons (eC (.str [112, 117, 116])) aNil))))) (
sRet (eAnd (eOp fEq (eFn fLen (aCons (eVar 0) aNil)) (eC (.int 3))) (eAnd (eCall G f__law_is_below (aCons (eOp fIx (eVar 0) (eC (.int 1))) (aCons (eFn fLen (aCons (eVar 6) aNil)) aNil))) (eCall G f__law_is_below (aCons (eOp fIx (eVar 0) (eC (.int 2))) (aCons (eOp fIxA (eVar 6) (eOp fIx (eVar 0) (eC (.int 1)))) aNil)))))) (
sNx)) (
sSeq (sIf (cB (eOp fNe (eFn fLen (aCons (eVar 0) aNil)) (eC (.int 2)))) (
sRet (eC (.bl false))) (
sNx)) (
sSeq (sIf (cB (eOp fIn (eVar 8) (eLst (aCons (eC (.str [112, 117, 115, 104])) (aCons (eC (.str [115, 99, 97, 108, 101])) aNil))))) (
sRet (eAnd (eCall G f__law_is_int (aCons (eOp fIx (eVar 0) (eC (.int 1))) aNil)) (eOp fLe (eFn fAbs (aCons (eOp fIx (eVar 0) (eC (.int 1))) aNil)) (eOp fPow (eC (.int 10)) (eC (.int 12)))))) (
sNx)) (
sSeq (sIf (cB (eOp fIn (eVar 8) (eLst (aCons (eC (.str [100, 105, 118])) (aCons (eC (.str [109, 111, 100])) aNil))))) (
sRet (eAnd (eCall G f__law_is_int (aCons (eOp fIx (eVar 0) (eC (.int 1))) aNil)) (eAnd (eOp fGe (eOp fIx (eVar 0) (eC (.int 1))) (eC (.int 2))) (eOp fLe (eOp fIx (eVar 0) (eC (.int 1))) (eOp fPow (eC (.int 10)) (eC (.int 12))))))) (
sNx)) (
sSeq (sSet 10 (eDic [(eC (.str [108, 111, 97, 100]), eVar 3), (eC (.str [115, 116, 111, 114, 101]), eVar 3), (eC (.str [114, 101, 97, 100]), eVar 4), (eC (.str [119, 114, 105, 116, 101]), eVar 4), (eC (.str [108, 101, 110, 103, 116, 104]), eVar 4), (eC (.str [110, 101, 119]), eVar 4)])) (
sSeq (sEx (eGc (eMet .dict fUpdD (eVar 10) (aCons (eDic [(eC (.str [106, 117, 109, 112]), eVar 1), (eC (.str [108, 101, 115, 115]), eVar 1), (eC (.str [115, 97, 109, 101]), eVar 1), (eC (.str [103, 114, 97, 98]), eFn fLen (aCons (eVar 6) aNil)), (eC (.str [100, 114, 111, 112]), eFn fLen (aCons (eVar 6) aNil))]) aNil)))) (
sSeq (sEx (eGc (eMet .dict fUpdD (eVar 10) (aCons (eDic [(eC (.str [115, 101, 110, 100]), eVar 7), (eC (.str [116, 97, 107, 101]), eVar 7)]) aNil)))) (
sRet (eAnd (eOp fInA (eVar 8) (eVar 10)) (eCall G f__law_is_below (aCons (eOp fIx (eVar 0) (eC (.int 1))) (aCons (eOp fIxA (eVar 10) (eVar 8)) aNil))))))))))))))))
def d__law_is_row : Df := ⟨3, 13, b__law_is_row⟩
/-- _law_is_right(datum, sizes); slots datum, sizes, row -/
def b__law_is_right (G : Ga) : Fs :=
sSeq (sIf (cOr (cNot (cV (eFn (fIsi "tuple") (aCons (eVar 0) aNil)))) (cOr (cB (eOp fLt (eFn fLen (aCons (eVar 0) aNil)) (eC (.int 1)))) (cB (eOp fGt (eFn fLen (aCons (eVar 0) aNil)) (eC (.int 400)))))) (
sRet (eC (.bl false))) (
sNx)) (
sRet (eGc (eFn fAll (aCons (eLc (iA (eVar 0)) (gN 2) (cYes) (eCall G f__law_is_row (aCons (eVar 2) (aCons (eFn fLen (aCons (eVar 0) aNil)) (aCons (eVar 1) aNil)))) [2]) aNil))))
def d__law_is_right : Df := ⟨2, 3, b__law_is_right⟩
/-- _law_row_text(row); slots row, numbers, x -/
def b__law_row_text (G : Ga) : Fs :=
sSeq (sSet 1 (eFn fListA (aCons (eSl fSl (eVar 0) (oSome (eC (.int 1))) (oNone)) aNil))) (
sSeq (sIf (cB (eOp fEq (eOp fIx (eVar 0) (eC (.int 0))) (eC (.str [99, 97, 108, 108])))) (
sSet 1 (eOp fAdd (eLst (aCons (eOp fIx (eVar 0) (eC (.int 1))) aNil)) (eFn fListA (aCons (eOp fIx (eVar 0) (eC (.int 2))) aNil)))) (
sNx)) (
sRet (eGc (eMet .str fJoin (eC (.str [32])) (aCons (eOp fAdd (eLst (aCons (eOp fIx (eVar 0) (eC (.int 0))) aNil)) (eLc (iA (eVar 1)) (gN 2) (cYes) (eFn fStr (aCons (eVar 2) aNil)) [2])) aNil)))))
def d__law_row_text : Df := ⟨1, 3, b__law_row_text⟩
/-- _law_refuses(text); slots text -/
def b__law_refuses (G : Ga) : Fs :=
sSeq (sTry (
sEx (eCall G f_read_code (aCons (eVar 0) aNil))) sub_BadText (suN (
sRet (eC (.bl true))))) (
sRet (eC (.bl false)))
def d__law_refuses : Df := ⟨1, 1, b__law_refuses⟩
/-- law(script); slots script, state, turn, locks, sizes, places, good, text, odd, datum, other, found, row, far, due, bad, k, one -/
def b_law (G : Ga) : Fs :=
sSeq (sSet 1 (eCall G f__law_start (aCons (eVar 0) aNil))) (
sSeq (sFor (iRg rg1 (aCons (eC (.int 3)) aNil)) (gN 2) (
sSeq (sSet 3 (eGc (eFn fTuple (aCons (eLc (iRg rg1 (aCons (eCall G f__law_draw (aCons (eVar 1) (aCons (eC (.int 3)) aNil))) aNil)) (gN 16) (cYes) (eCall G f__law_draw (aCons (eVar 1) (aCons (eC (.int 4)) aNil))) [16]) aNil)))) (
sSeq (sSet 4 (eTup (aCons (eCall G f__law_draw (aCons (eVar 1) (aCons (eC (.int 4)) aNil))) (aCons (eCall G f__law_draw (aCons (eVar 1) (aCons (eC (.int 4)) aNil))) (aCons (eCall G f__law_draw (aCons (eVar 1) (aCons (eC (.int 3)) aNil))) (aCons (eVar 3) (aCons (eCall G f__law_draw (aCons (eVar 1) (aCons (eC (.int 3)) aNil))) aNil))))))) (
sSeq (sSet 5 (eOp fAdd (eC (.int 1)) (eCall G f__law_draw (aCons (eVar 1) (aCons (eC (.int 9)) aNil))))) (
sSeq (sSet 6 (eGc (eFn fTuple (aCons (eLc (iRg rg1 (aCons (eVar 5) aNil)) (gN 16) (cYes) (eCall G f__law_some_row (aCons (eVar 1) (aCons (eVar 5) (aCons (eVar 4) aNil)))) [16]) aNil)))) (
sSeq (sSet 7 (eGc (eMet .str fJoin (eC (.str [])) (aCons (eLc (iA (eVar 6)) (gN 12) (cYes) (eOp fAdd (eCall G f__law_row_text (aCons (eVar 12) aNil)) (eC (.str [10]))) [12]) aNil)))) (
sSeq (sIf (cOr (cNot (cV (eCall G f__law_same (aCons (eCall G f_write_code (aCons (eVar 6) aNil)) (aCons (eVar 7) aNil))))) (cNot (cV (eCall G f__law_same (aCons (eCall G f_read_code (aCons (eVar 7) aNil)) (aCons (eVar 6) aNil)))))) (
sRet (eC (.bl false))) (
sNx)) (
sSeq (sSet 8 (eLst (aCons (eVar 6) (aCons (eSl fSl (eVar 6) (oNone) (oSome (eUn fNeg (eC (.int 1))))) (aCons (eOp fAdd (eVar 6) (eSl fSl (eVar 6) (oNone) (oSome (eC (.int 1))))) (aCons (eUn fRevA (eVar 6)) (aCons (eTup (aNil)) aNil))))))) (
sSeq (sSet 8 (eOp fAdd (eVar 8) (eLst (aCons (eC (.int 0)) (aCons (eC (.str [112, 117, 115, 104])) (aCons (eOp fIx (eVar 6) (eC (.int 0))) (aCons (eTup (aCons (eTup (aCons (eC (.str [112, 117, 115, 104])) (aCons (eOp fAdd (eOp fPow (eC (.int 10)) (eC (.int 12))) (eC (.int 1))) aNil))) aNil)) (aCons (eTup (aCons (eTup (aCons (eC (.str [109, 111, 100])) (aCons (eC (.int 1)) aNil))) aNil)) aNil)))))))) (
sSeq (sSet 8 (eOp fAdd (eVar 8) (eLst (aCons (eTup (aCons (eTup (aCons (eC (.str [99, 97, 108, 108])) (aCons (eC (.int 0)) (aCons (eTup (aCons (eC (.int 0)) (aCons (eC (.int 0)) aNil))) aNil)))) aNil)) (aCons (eTup (aCons (eTup (aCons (eC (.str [99, 97, 108, 108])) (aCons (eC (.int 0)) aNil))) aNil)) (aCons (eTup (aCons (eTup (aCons (eC (.str [106, 117, 109, 112])) (aCons (eC (.int 1)) aNil))) aNil)) (aCons (eTup (aCons (eTup (aCons (eC (.str [106, 117, 109, 112])) (aCons (eC (.int 0)) aNil))) aNil)) aNil))))))) (
sSeq (sSet 8 (eOp fAdd (eVar 8) (eLst (aCons (eTup (aCons (eTup (aCons (eC (.str [108, 111, 97, 100])) (aCons (eC (.int 3)) aNil))) aNil)) (aCons (eTup (aCons (eTup (aCons (eC (.str [112, 111, 112])) aNil)) aNil)) (aCons (eTup (aCons (eTup (aNil)) aNil)) aNil)))))) (
sSeq (sSet 8 (eOp fAdd (eVar 8) (eLst (aCons (eTup (aCons (eTup (aCons (eC (.str [103, 101, 116])) (aCons (eC (.int 0)) aNil))) aNil)) (aCons (eTup (aCons (eTup (aCons (eC (.str [112, 117, 116])) (aCons (eC (.int 0)) (aCons (eC (.int 3)) aNil)))) aNil)) (aCons (eTup (aCons (eTup (aCons (eC (.str [103, 101, 116])) (aCons (eC (.int 0)) (aCons (eC (.int 0)) aNil)))) aNil)) aNil)))))) (
sSeq (sSet 8 (eOp fAdd (eVar 8) (eLst (aCons (eTup (aCons (eTup (aCons (eC (.str [100, 114, 111, 112])) (aCons (eC (.int 1)) aNil))) aNil)) (aCons (eTup (aCons (eTup (aCons (eC (.str [116, 97, 107, 101])) (aCons (eC (.int 2)) aNil))) aNil)) (aCons (eTup (aCons (eTup (aCons (eC (.str [115, 101, 110, 100])) (aCons (eC (.int 0)) (aCons (eC (.int 0)) aNil)))) aNil)) aNil)))))) (
sSeq (sSet 8 (eOp fAdd (eVar 8) (eLst (aCons (eOp fAdd (eVar 6) (eTup (aCons (eTup (aCons (eC (.str [116, 101, 108, 108])) (aCons (eC (.int 0)) aNil))) aNil))) (aCons (eOp fAdd (eVar 6) (eTup (aCons (eC (.str [116, 101, 108, 108])) aNil))) (aCons (eOp fAdd (eVar 6) (eTup (aCons (eTup (aCons (eC (.str [108, 101, 110, 103, 116, 104])) (aCons (eC (.str [48])) aNil))) aNil))) aNil)))))) (
sSeq (sSet 8 (eOp fAdd (eVar 8) (eLst (aCons (eTup (aCons (eTup (aCons (eC (.str [103, 101, 116])) (aCons (eC (.int 0)) (aCons (eUn fNeg (eC (.int 1))) aNil)))) aNil)) (aCons (eTup (aCons (eTup (aCons (eC (.str [100, 105, 118])) (aCons (eOp fAdd (eOp fPow (eC (.int 10)) (eC (.int 12))) (eC (.int 1))) aNil))) aNil)) aNil))))) (
sSeq (sSet 8 (eOp fAdd (eVar 8) (eLc (iRg rg1 (aCons (eC (.int 16)) aNil)) (gN 16) (cYes) (eCall G f__law_bent (aCons (eVar 1) (aCons (eVar 6) (aCons (eC (.int 0)) aNil)))) [16]))) (
sFor (iA (eVar 8)) (gN 9) (
sFor (iA (eLst (aCons (eVar 4) (aCons (eOp fAdd (eSl fSl (eVar 4) (oNone) (oSome (eC (.int 3)))) (eTup (aCons (eOp fAdd (eTup (aCons (eC (.int 1)) aNil)) (eVar 3)) (aCons (eC (.int 1)) aNil)))) (aCons (eOp fAdd (eTup (aCons (eOp fIx (eVar 4) (eC (.int 0))) (aCons (eFn fMax2 (aCons (eC (.int 0)) (aCons (eOp fSub (eOp fIx (eVar 4) (eC (.int 1))) (eC (.int 1))) aNil))) aNil))) (eSl fSl (eVar 4) (oSome (eC (.int 2))) (oNone))) aNil))))) (gN 10) (
sSeq (sSet 11 (eCall G f_is_code (aCons (eVar 9) (aCons (eOp fIx (eVar 10) (eC (.int 0))) (aCons (eOp fIx (eVar 10) (eC (.int 1))) (aCons (eOp fIx (eVar 10) (eC (.int 2))) (aCons (eOp fIx (eVar 10) (eC (.int 3))) (aCons (eOp fIx (eVar 10) (eC (.int 4))) aNil)))))))) (
sIf (cNot (cV (eCall G f__law_says (aCons (eVar 11) (aCons (eCall G f__law_is_right (aCons (eVar 9) (aCons (eVar 10) aNil))) aNil))))) (
sRet (eC (.bl false))) (
sNx))))))))))))))))))))) (
sSeq (sSet 12 (eTup (aCons (eTup (aCons (eC (.str [97, 100, 100])) aNil)) aNil))) (
sSeq (sIf (cOr (cB (eOp fIsNot (eCall G f_is_code (aCons (eOp fMulA (eVar 12) (eC (.int 400))) (aCons (eC (.int 0)) (aCons (eC (.int 0)) (aCons (eC (.int 0)) (aCons (eTup (aNil)) (aCons (eC (.int 0)) aNil))))))) (eC (.bl true)))) (cB (eOp fIsNot (eCall G f_is_code (aCons (eOp fMulA (eVar 12) (eC (.int 401))) (aCons (eC (.int 0)) (aCons (eC (.int 0)) (aCons (eC (.int 0)) (aCons (eTup (aNil)) (aCons (eC (.int 0)) aNil))))))) (eC (.bl false))))) (
sRet (eC (.bl false))) (
sNx)) (
sSeq (sSet 13 (eOp fAdd (eOp fAdd (eC (.str [108, 111, 97, 100, 32, 45, 53, 10, 106, 117, 109, 112, 32])) (eOp fMulA (eC (.str [57])) (eC (.int 30)))) (eC (.str [10, 99, 97, 108, 108, 32, 55, 32, 49, 32, 49, 10, 112, 117, 116, 32, 51, 32, 45, 57, 10, 103, 114, 97, 98, 32, 57, 57, 10])))) (
sSeq (sSet 14 (eTup (aCons (eTup (aCons (eC (.str [108, 111, 97, 100])) (aCons (eUn fNeg (eC (.int 5))) aNil))) (aCons (eTup (aCons (eC (.str [106, 117, 109, 112])) (aCons (eFn fIntOf (aCons (eOp fMulA (eC (.str [57])) (eC (.int 30))) aNil)) aNil))) (aCons (eTup (aCons (eC (.str [99, 97, 108, 108])) (aCons (eC (.int 7)) (aCons (eTup (aCons (eC (.int 1)) (aCons (eC (.int 1)) aNil))) aNil)))) (aCons (eTup (aCons (eC (.str [112, 117, 116])) (aCons (eC (.int 3)) (aCons (eUn fNeg (eC (.int 9))) aNil)))) (aCons (eTup (aCons (eC (.str [103, 114, 97, 98])) (aCons (eC (.int 99)) aNil))) aNil))))))) (
sSeq (sIf (cNot (cV (eCall G f__law_same (aCons (eCall G f_read_code (aCons (eVar 13) aNil)) (aCons (eVar 14) aNil))))) (
sRet (eC (.bl false))) (
sNx)) (
sSeq (sSet 15 (eLst (aCons (eC (.str [])) (aCons (eC (.str [112, 117, 115, 104, 32, 49])) (aCons (eC (.str [112, 117, 115, 104, 10])) (aCons (eC (.str [112, 117, 115, 104, 32, 49, 32, 50, 10])) (aCons (eC (.str [112, 111, 112, 10])) aNil))))))) (
sSeq (sSet 15 (eOp fAdd (eVar 15) (eLst (aCons (eC (.str [112, 117, 115, 104, 32, 48, 49, 10])) (aCons (eC (.str [32, 112, 117, 115, 104, 32, 49, 10])) (aCons (eC (.str [112, 117, 115, 104, 32, 32, 49, 10])) (aCons (eC (.str [112, 117, 115, 104, 32, 49, 32, 10])) (aCons (eC (.str [97, 100, 100, 32, 49, 10])) aNil)))))))) (
sSeq (sSet 15 (eOp fAdd (eVar 15) (eLst (aCons (eC (.str [99, 97, 108, 108, 10])) (aCons (eC (.str [99, 97, 108, 108, 32, 120, 10])) (aCons (eC (.str [112, 117, 115, 104, 32, 45, 48, 10])) (aCons (eC (.str [10])) (aCons (eC (.str [97, 100, 100, 10, 10])) (aCons (eC (.str [65, 100, 100, 10])) (aCons (eC (.str [112, 117, 115, 104, 32, 43, 49, 10])) (aCons (eC (.str [116, 101, 108, 108, 10, 97, 100, 100])) (aCons (eC (.str [108, 111, 111, 112, 32, 49, 10])) aNil)))))))))))) (
sSeq (sSet 15 (eOp fAdd (eVar 15) (eLst (aCons (eC (.str [103, 101, 116, 32, 49, 10])) (aCons (eC (.str [112, 117, 116, 32, 49, 32, 50, 32, 51, 10])) (aCons (eC (.str [103, 101, 116, 10])) (aCons (eC (.str [115, 101, 110, 100, 10])) (aCons (eC (.str [116, 97, 107, 101, 32, 49, 32, 50, 10])) (aCons (eC (.str [103, 114, 97, 98, 10])) (aCons (eC (.str [102, 114, 101, 101, 32, 49, 10])) aNil)))))))))) (
sRet (eGc (eFn fAll (aCons (eLc (iA (eVar 15)) (gN 17) (cYes) (eCall G f__law_refuses (aCons (eVar 17) aNil)) [17]) aNil))))))))))))))
def d_law : Df := ⟨1, 18, b_law⟩
/-- Sizes.__init__(self, places, locals_count, slots, functions, locks, channels); slots self, places, locals_count, slots, functions, locks, channels -/
def b_Sizes___init__ (G : Ga) : Fs :=
sSeq (sFldSet 0 [98, 111, 117, 110, 100, 115] (eVar 0) (eDic [(eC (.str [106, 117, 109, 112]), eVar 1), (eC (.str [108, 101, 115, 115]), eVar 1), (eC (.str [115, 97, 109, 101]), eVar 1), (eC (.str [108, 111, 97, 100]), eVar 2), (eC (.str [115, 116, 111, 114, 101]), eVar 2)])) (
sSeq (sEx (eGc (eMet .dict fUpdD (eFld 0 [98, 111, 117, 110, 100, 115] (eVar 0)) (aCons (eDic [(eC (.str [115, 101, 110, 100]), eVar 6), (eC (.str [116, 97, 107, 101]), eVar 6), (eC (.str [103, 114, 97, 98]), eFn fLen (aCons (eVar 5) aNil)), (eC (.str [100, 114, 111, 112]), eFn fLen (aCons (eVar 5) aNil))]) aNil)))) (
sSeq (sFldSet 0 [115, 108, 111, 116, 115] (eVar 0) (eVar 3)) (
sSeq (sFldSet 0 [102, 117, 110, 99, 116, 105, 111, 110, 115] (eVar 0) (eVar 4)) (
sFldSet 0 [108, 111, 99, 107, 115] (eVar 0) (eVar 5)))))
def d_Sizes___init__ : Df := ⟨7, 7, b_Sizes___init__⟩
/-- Sizes.fits(self, row); slots self, row, kind -/
def b_Sizes_fits (G : Ga) : Fs :=
sSeq (sSet 2 (eOp fIx (eVar 1) (eC (.int 0)))) (
sSeq (sIf (cB (eOp fEq (eVar 2) (eC (.str [99, 97, 108, 108])))) (
sRet (eAnd (eCall G f_is_small (aCons (eOp fIx (eVar 1) (eC (.int 1))) aNil)) (eAnd (eOp fLt (eOp fIx (eVar 1) (eC (.int 1))) (eFld 0 [102, 117, 110, 99, 116, 105, 111, 110, 115] (eVar 0))) (eCall G f_are_slots (aCons (eOp fIx (eVar 1) (eC (.int 2))) (aCons (eFld 0 [115, 108, 111, 116, 115] (eVar 0)) aNil)))))) (
sNx)) (
sSeq (sIf (cB (eOp fIn (eVar 2) (eTup (aCons (eC (.str [112, 117, 115, 104])) (aCons (eC (.str [115, 99, 97, 108, 101])) aNil))))) (
sRet (eAnd (eCall G f_is_integer (aCons (eOp fIx (eVar 1) (eC (.int 1))) aNil)) (eOp fLe (eFn fAbs (aCons (eOp fIx (eVar 1) (eC (.int 1))) aNil)) (eC c_MOST_NUMBER)))) (
sNx)) (
sSeq (sIf (cB (eOp fIn (eVar 2) (eTup (aCons (eC (.str [100, 105, 118])) (aCons (eC (.str [109, 111, 100])) aNil))))) (
sRet (eAnd (eCall G f_is_small (aCons (eOp fIx (eVar 1) (eC (.int 1))) aNil)) (eOp fGe (eOp fIx (eVar 1) (eC (.int 1))) (eC (.int 2))))) (
sNx)) (
sSeq (sIf (cB (eOp fIn (eVar 2) (eTup (aCons (eC (.str [103, 101, 116])) (aCons (eC (.str [112, 117, 116])) aNil))))) (
sRet (eAnd (eCall G f_is_small (aCons (eOp fIx (eVar 1) (eC (.int 1))) aNil)) (eAnd (eOp fLt (eOp fIx (eVar 1) (eC (.int 1))) (eFn fLen (aCons (eFld 0 [108, 111, 99, 107, 115] (eVar 0)) aNil))) (eAnd (eCall G f_is_small (aCons (eOp fIx (eVar 1) (eC (.int 2))) aNil)) (eOp fLt (eOp fIx (eVar 1) (eC (.int 2))) (eOp fIxA (eFld 0 [108, 111, 99, 107, 115] (eVar 0)) (eOp fIx (eVar 1) (eC (.int 1))))))))) (
sNx)) (
sSeq (sIf (cB (eOp fInA (eVar 2) (eFld 0 [98, 111, 117, 110, 100, 115] (eVar 0)))) (
sRet (eAnd (eCall G f_is_small (aCons (eOp fIx (eVar 1) (eC (.int 1))) aNil)) (eOp fLt (eOp fIx (eVar 1) (eC (.int 1))) (eOp fIxA (eFld 0 [98, 111, 117, 110, 100, 115] (eVar 0)) (eVar 2))))) (
sNx)) (
sRet (eOr (eOp fEq (eFn fLen (aCons (eVar 1) aNil)) (eC (.int 1))) (eAnd (eCall G f_is_small (aCons (eOp fIx (eVar 1) (eC (.int 1))) aNil)) (eOp fLt (eOp fIx (eVar 1) (eC (.int 1))) (eFld 0 [115, 108, 111, 116, 115] (eVar 0)))))))))))
def d_Sizes_fits : Df := ⟨2, 3, b_Sizes_fits⟩
def tab : Nat → Option Df
  | 0 => some d_is_integer
  | 1 => some d_is_tuple
  | 2 => some d_is_small
  | 3 => some d_are_slots
  | 4 => some d_is_row
  | 5 => some d_is_code
  | 6 => some d_write_integer
  | 7 => some d_read_integer
  | 8 => some d_row_text
  | 9 => some d_write_code
  | 10 => some d_read_row
  | 11 => some d_read_code
  | 12 => some d__law_start
  | 13 => some d__law_draw
  | 14 => some d__law_one_of
  | 15 => some d__law_shuffled
  | 16 => some d__law_is_int
  | 17 => some d__law_same
  | 18 => some d__law_says
  | 19 => some d__law_bent
  | 20 => some d__law_some_row
  | 21 => some d__law_is_below
  | 22 => some d__law_is_row
  | 23 => some d__law_is_right
  | 24 => some d__law_row_text
  | 25 => some d__law_refuses
  | 26 => some d_law
  | 27 => some d_Sizes___init__
  | 28 => some d_Sizes_fits
  | _ => none
end K09
set_option maxRecDepth 100000
/-! The derivations (printed by gen.py). -/
namespace K09
open PySem PySem.Spec PyProof.Rows L2 Mi
def top (i : Nat) : Stmt := PySem.Challenge.pw_allgoon_k09_code.main.body.getD i (.Pass ⟨0, 0, 0, 0⟩)
abbrev st0 : Stmt := top 1
abbrev N0 : List Str := ["datum"]
abbrev P0 : List Str := ["datum"]
theorem sc0 : FnScope N0 P0 (defScope st0) := ⟨rfl, rfl, rfl, by decide +kernel, rfl, by decide +kernel, by decide +kernel⟩
abbrev st1 : Stmt := top 2
abbrev N1 : List Str := ["datum", "many"]
abbrev P1 : List Str := ["datum", "many"]
theorem sc1 : FnScope N1 P1 (defScope st1) := ⟨rfl, rfl, rfl, by decide +kernel, rfl, by decide +kernel, by decide +kernel⟩
abbrev st2 : Stmt := top 7
abbrev N2 : List Str := ["datum"]
abbrev P2 : List Str := ["datum"]
theorem sc2 : FnScope N2 P2 (defScope st2) := ⟨rfl, rfl, rfl, by decide +kernel, rfl, by decide +kernel, by decide +kernel⟩
abbrev st3 : Stmt := top 8
abbrev N3 : List Str := ["datum", "slots", "slot"]
abbrev P3 : List Str := ["datum", "slots"]
theorem sc3 : FnScope N3 P3 (defScope st3) := ⟨rfl, rfl, rfl, by decide +kernel, rfl, by decide +kernel, by decide +kernel⟩
abbrev st4 : Stmt := top 10
abbrev N4 : List Str := ["datum"]
abbrev P4 : List Str := ["datum"]
theorem sc4 : FnScope N4 P4 (defScope st4) := ⟨rfl, rfl, rfl, by decide +kernel, rfl, by decide +kernel, by decide +kernel⟩
abbrev st5 : Stmt := top 11
abbrev N5 : List Str := ["datum", "locals_count", "slots", "functions", "locks", "channels", "sizes", "row"]
abbrev P5 : List Str := ["datum", "locals_count", "slots", "functions", "locks", "channels"]
theorem sc5 : FnScope N5 P5 (defScope st5) := ⟨rfl, rfl, rfl, by decide +kernel, rfl, by decide +kernel, by decide +kernel⟩
abbrev st6 : Stmt := top 18
abbrev N6 : List Str := ["n", "chunks", "low"]
abbrev P6 : List Str := ["n"]
theorem sc6 : FnScope N6 P6 (defScope st6) := ⟨rfl, rfl, rfl, by decide +kernel, rfl, by decide +kernel, by decide +kernel⟩
abbrev st7 : Stmt := top 19
abbrev N7 : List Str := ["text", "digits", "char", "head", "n", "start"]
abbrev P7 : List Str := ["text"]
theorem sc7 : FnScope N7 P7 (defScope st7) := ⟨rfl, rfl, rfl, by decide +kernel, rfl, by decide +kernel, by decide +kernel⟩
abbrev st8 : Stmt := top 47
abbrev N8 : List Str := ["one", "slot", "number"]
abbrev P8 : List Str := ["one"]
theorem sc8 : FnScope N8 P8 (defScope st8) := ⟨rfl, rfl, rfl, by decide +kernel, rfl, by decide +kernel, by decide +kernel⟩
abbrev st9 : Stmt := top 48
abbrev N9 : List Str := ["code", "one"]
abbrev P9 : List Str := ["code"]
theorem sc9 : FnScope N9 P9 (defScope st9) := ⟨rfl, rfl, rfl, by decide +kernel, rfl, by decide +kernel, by decide +kernel⟩
abbrev st10 : Stmt := top 49
abbrev N10 : List Str := ["line", "words", "kind", "numbers", "word"]
abbrev P10 : List Str := ["line"]
theorem sc10 : FnScope N10 P10 (defScope st10) := ⟨rfl, rfl, rfl, by decide +kernel, rfl, by decide +kernel, by decide +kernel⟩
abbrev st11 : Stmt := top 50
abbrev N11 : List Str := ["text", "line"]
abbrev P11 : List Str := ["text"]
theorem sc11 : FnScope N11 P11 (defScope st11) := ⟨rfl, rfl, rfl, by decide +kernel, rfl, by decide +kernel, by decide +kernel⟩
abbrev st12 : Stmt := top 52
abbrev N12 : List Str := ["script"]
abbrev P12 : List Str := ["script"]
theorem sc12 : FnScope N12 P12 (defScope st12) := ⟨rfl, rfl, rfl, by decide +kernel, rfl, by decide +kernel, by decide +kernel⟩
abbrev st13 : Stmt := top 53
abbrev N13 : List Str := ["state", "most", "found", "cell", "mixed"]
abbrev P13 : List Str := ["state", "most"]
theorem sc13 : FnScope N13 P13 (defScope st13) := ⟨rfl, rfl, rfl, by decide +kernel, rfl, by decide +kernel, by decide +kernel⟩
abbrev st14 : Stmt := top 54
abbrev N14 : List Str := ["state", "items"]
abbrev P14 : List Str := ["state", "items"]
theorem sc14 : FnScope N14 P14 (defScope st14) := ⟨rfl, rfl, rfl, by decide +kernel, rfl, by decide +kernel, by decide +kernel⟩
abbrev st15 : Stmt := top 55
abbrev N15 : List Str := ["state", "items", "found", "item"]
abbrev P15 : List Str := ["state", "items"]
theorem sc15 : FnScope N15 P15 (defScope st15) := ⟨rfl, rfl, rfl, by decide +kernel, rfl, by decide +kernel, by decide +kernel⟩
abbrev st16 : Stmt := top 56
abbrev N16 : List Str := ["x"]
abbrev P16 : List Str := ["x"]
theorem sc16 : FnScope N16 P16 (defScope st16) := ⟨rfl, rfl, rfl, by decide +kernel, rfl, by decide +kernel, by decide +kernel⟩
abbrev st17 : Stmt := top 57
abbrev N17 : List Str := ["x", "y", "k"]
abbrev P17 : List Str := ["x", "y"]
theorem sc17 : FnScope N17 P17 (defScope st17) := ⟨rfl, rfl, rfl, by decide +kernel, rfl, by decide +kernel, by decide +kernel⟩
abbrev st18 : Stmt := top 58
abbrev N18 : List Str := ["found", "due"]
abbrev P18 : List Str := ["found", "due"]
theorem sc18 : FnScope N18 P18 (defScope st18) := ⟨rfl, rfl, rfl, by decide +kernel, rfl, by decide +kernel, by decide +kernel⟩
abbrev st19 : Stmt := top 59
abbrev N19 : List Str := ["state", "datum", "depth", "at", "other"]
abbrev P19 : List Str := ["state", "datum", "depth"]
theorem sc19 : FnScope N19 P19 (defScope st19) := ⟨rfl, rfl, rfl, by decide +kernel, rfl, by decide +kernel, by decide +kernel⟩
abbrev st20 : Stmt := top 60
abbrev N20 : List Str := ["state", "places", "sizes", "inner", "slots", "called", "locks", "ways_out", "pick", "number", "some", "lock", "k"]
abbrev P20 : List Str := ["state", "places", "sizes"]
theorem sc20 : FnScope N20 P20 (defScope st20) := ⟨rfl, rfl, rfl, by decide +kernel, rfl, by decide +kernel, by decide +kernel⟩
abbrev st21 : Stmt := top 61
abbrev N21 : List Str := ["x", "most"]
abbrev P21 : List Str := ["x", "most"]
theorem sc21 : FnScope N21 P21 (defScope st21) := ⟨rfl, rfl, rfl, by decide +kernel, rfl, by decide +kernel, by decide +kernel⟩
abbrev st22 : Stmt := top 62
abbrev N22 : List Str := ["row", "places", "sizes", "inner", "slots", "called", "locks", "ways_out", "word", "unlike", "bounds", "k", "x"]
abbrev P22 : List Str := ["row", "places", "sizes"]
theorem sc22 : FnScope N22 P22 (defScope st22) := ⟨rfl, rfl, rfl, by decide +kernel, rfl, by decide +kernel, by decide +kernel⟩
abbrev st23 : Stmt := top 63
abbrev N23 : List Str := ["datum", "sizes", "row"]
abbrev P23 : List Str := ["datum", "sizes"]
theorem sc23 : FnScope N23 P23 (defScope st23) := ⟨rfl, rfl, rfl, by decide +kernel, rfl, by decide +kernel, by decide +kernel⟩
abbrev st24 : Stmt := top 64
abbrev N24 : List Str := ["row", "numbers", "x"]
abbrev P24 : List Str := ["row"]
theorem sc24 : FnScope N24 P24 (defScope st24) := ⟨rfl, rfl, rfl, by decide +kernel, rfl, by decide +kernel, by decide +kernel⟩
abbrev st25 : Stmt := top 65
abbrev N25 : List Str := ["text"]
abbrev P25 : List Str := ["text"]
theorem sc25 : FnScope N25 P25 (defScope st25) := ⟨rfl, rfl, rfl, by decide +kernel, rfl, by decide +kernel, by decide +kernel⟩
abbrev st26 : Stmt := top 66
abbrev N26 : List Str := ["script", "state", "turn", "locks", "sizes", "places", "good", "text", "odd", "datum", "other", "found", "row", "far", "due", "bad", "k", "one"]
abbrev P26 : List Str := ["script"]
theorem sc26 : FnScope N26 P26 (defScope st26) := ⟨rfl, rfl, rfl, by decide +kernel, rfl, by decide +kernel, by decide +kernel⟩
abbrev st27 : Stmt := inClass (top 9) 0
abbrev N27 : List Str := ["self", "places", "locals_count", "slots", "functions", "locks", "channels"]
abbrev P27 : List Str := ["self", "places", "locals_count", "slots", "functions", "locks", "channels"]
theorem sc27 : FnScope N27 P27 (defScope st27) := ⟨rfl, rfl, rfl, by decide +kernel, rfl, by decide +kernel, by decide +kernel⟩
abbrev st28 : Stmt := inClass (top 9) 1
abbrev N28 : List Str := ["self", "row", "kind"]
abbrev P28 : List Str := ["self", "row"]
theorem sc28 : FnScope N28 P28 (defScope st28) := ⟨rfl, rfl, rfl, by decide +kernel, rfl, by decide +kernel, by decide +kernel⟩
def ent (fa : Nat → Addr) (fd : Nat → FuncData) : Nat → Option Ent
  | 0 => some ⟨"is_integer", "is_integer", st0, N0, P0, fa 0, fd 0⟩
  | 1 => some ⟨"is_tuple", "is_tuple", st1, N1, P1, fa 1, fd 1⟩
  | 2 => some ⟨"is_small", "is_small", st2, N2, P2, fa 2, fd 2⟩
  | 3 => some ⟨"are_slots", "are_slots", st3, N3, P3, fa 3, fd 3⟩
  | 4 => some ⟨"is_row", "is_row", st4, N4, P4, fa 4, fd 4⟩
  | 5 => some ⟨"is_code", "is_code", st5, N5, P5, fa 5, fd 5⟩
  | 6 => some ⟨"write_integer", "write_integer", st6, N6, P6, fa 6, fd 6⟩
  | 7 => some ⟨"read_integer", "read_integer", st7, N7, P7, fa 7, fd 7⟩
  | 8 => some ⟨"row_text", "row_text", st8, N8, P8, fa 8, fd 8⟩
  | 9 => some ⟨"write_code", "write_code", st9, N9, P9, fa 9, fd 9⟩
  | 10 => some ⟨"read_row", "read_row", st10, N10, P10, fa 10, fd 10⟩
  | 11 => some ⟨"read_code", "read_code", st11, N11, P11, fa 11, fd 11⟩
  | 12 => some ⟨"_law_start", "_law_start", st12, N12, P12, fa 12, fd 12⟩
  | 13 => some ⟨"_law_draw", "_law_draw", st13, N13, P13, fa 13, fd 13⟩
  | 14 => some ⟨"_law_one_of", "_law_one_of", st14, N14, P14, fa 14, fd 14⟩
  | 15 => some ⟨"_law_shuffled", "_law_shuffled", st15, N15, P15, fa 15, fd 15⟩
  | 16 => some ⟨"_law_is_int", "_law_is_int", st16, N16, P16, fa 16, fd 16⟩
  | 17 => some ⟨"_law_same", "_law_same", st17, N17, P17, fa 17, fd 17⟩
  | 18 => some ⟨"_law_says", "_law_says", st18, N18, P18, fa 18, fd 18⟩
  | 19 => some ⟨"_law_bent", "_law_bent", st19, N19, P19, fa 19, fd 19⟩
  | 20 => some ⟨"_law_some_row", "_law_some_row", st20, N20, P20, fa 20, fd 20⟩
  | 21 => some ⟨"_law_is_below", "_law_is_below", st21, N21, P21, fa 21, fd 21⟩
  | 22 => some ⟨"_law_is_row", "_law_is_row", st22, N22, P22, fa 22, fd 22⟩
  | 23 => some ⟨"_law_is_right", "_law_is_right", st23, N23, P23, fa 23, fd 23⟩
  | 24 => some ⟨"_law_row_text", "_law_row_text", st24, N24, P24, fa 24, fd 24⟩
  | 25 => some ⟨"_law_refuses", "_law_refuses", st25, N25, P25, fa 25, fd 25⟩
  | 26 => some ⟨"law", "law", st26, N26, P26, fa 26, fd 26⟩
  | 27 => some ⟨"__init__", "Sizes.__init__", st27, N27, P27, fa 27, fd 27⟩
  | 28 => some ⟨"fits", "Sizes.fits", st28, N28, P28, fa 28, fd 28⟩
  | _ => none
/-- what the top has written -/
structure Txt (w : World) (cA : Nat → Addr) (K : PySem.W.Frag) (mg : Str → Option Value) (fa : Nat → Addr) : Prop where
  hK : True
  g_is_integer : mg "is_integer" = some (.ref (fa 0))
  g_is_tuple : mg "is_tuple" = some (.ref (fa 1))
  g_is_small : mg "is_small" = some (.ref (fa 2))
  g_are_slots : mg "are_slots" = some (.ref (fa 3))
  g_is_row : mg "is_row" = some (.ref (fa 4))
  g_is_code : mg "is_code" = some (.ref (fa 5))
  g_write_integer : mg "write_integer" = some (.ref (fa 6))
  g_read_integer : mg "read_integer" = some (.ref (fa 7))
  g_row_text : mg "row_text" = some (.ref (fa 8))
  g_write_code : mg "write_code" = some (.ref (fa 9))
  g_read_row : mg "read_row" = some (.ref (fa 10))
  g_read_code : mg "read_code" = some (.ref (fa 11))
  g__law_start : mg "_law_start" = some (.ref (fa 12))
  g__law_draw : mg "_law_draw" = some (.ref (fa 13))
  g__law_one_of : mg "_law_one_of" = some (.ref (fa 14))
  g__law_shuffled : mg "_law_shuffled" = some (.ref (fa 15))
  g__law_is_int : mg "_law_is_int" = some (.ref (fa 16))
  g__law_same : mg "_law_same" = some (.ref (fa 17))
  g__law_says : mg "_law_says" = some (.ref (fa 18))
  g__law_bent : mg "_law_bent" = some (.ref (fa 19))
  g__law_some_row : mg "_law_some_row" = some (.ref (fa 20))
  g__law_is_below : mg "_law_is_below" = some (.ref (fa 21))
  g__law_is_row : mg "_law_is_row" = some (.ref (fa 22))
  g__law_is_right : mg "_law_is_right" = some (.ref (fa 23))
  g__law_row_text : mg "_law_row_text" = some (.ref (fa 24))
  g__law_refuses : mg "_law_refuses" = some (.ref (fa 25))
  n_abs : mg "abs" = none
  n_all : mg "all" = none
  n_bool : mg "bool" = none
  n_divmod : mg "divmod" = none
  n_int : mg "int" = none
  n_isinstance : mg "isinstance" = none
  n_len : mg "len" = none
  n_list : mg "list" = none
  n_max : mg "max" = none
  n_range : mg "range" = none
  n_set : mg "set" = none
  n_str : mg "str" = none
  n_sum : mg "sum" = none
  n_tuple : mg "tuple" = none
  c_BASE : ∃ v u, mg "BASE" = some u ∧ RelV v u ∧ ∀ H ρ, RV K H ρ c_BASE v
  c_CALL : ∃ v u, mg "CALL" = some u ∧ RelV v u ∧ ∀ H ρ, RV K H ρ c_CALL v
  c_DIGITS : ∃ v u, mg "DIGITS" = some u ∧ RelV v u ∧ ∀ H ρ, RV K H ρ c_DIGITS v
  c_MOST_CODE : ∃ v u, mg "MOST_CODE" = some u ∧ RelV v u ∧ ∀ H ρ, RV K H ρ c_MOST_CODE v
  c_MOST_NUMBER : ∃ v u, mg "MOST_NUMBER" = some u ∧ RelV v u ∧ ∀ H ρ, RV K H ρ c_MOST_NUMBER v
  w_SIZES : WD K w mg "SIZES" d_SIZES_
  k_KINDS : WDG K w mg "KINDS" d_KINDS_
  k_MANY : WDG K w mg "MANY" d_MANY_
  k_SIZES : WDG K w mg "SIZES" d_SIZES_
  x_BadText : mg "BadText" = some (.ref (cA 2))
  e_AllgoonError : ExC K (cA 1)
  e_BadText : ExC K (cA 2)
  s_BadText : ∀ j b, sub_BadText j = some b → PySem.W.exmOne K (.ref (cA j)) (.ref (cA 2)) = some b
  x_Sizes : mg "Sizes" = some (.ref (cA 0))
  mk_Sizes : Mk K (cA 0) (fa 27)
  cl_Sizes : Cls K (cA 0)
  na_Sizes_bounds : NoAttr K (cA 0) "bounds"
  na_Sizes_functions : NoAttr K (cA 0) "functions"
  na_Sizes_locks : NoAttr K (cA 0) "locks"
  na_Sizes_slots : NoAttr K (cA 0) "slots"
  m_Sizes_fits : Meth K (cA 0) "fits" (fa 28)
section
variable {cA : Nat → Addr} {P : Program} {w : World} {K : PySem.W.Frag} {mg : Str → Option Value} {base : Heap} {fa : Nat → Addr} {fd : Nat → FuncData}
theorem bd0 (T : Txt w cA K mg fa) : BodyOk ⟨K, cA⟩ P w K mg base (ent fa fd) ⟨"is_integer", "is_integer", st0, N0, P0, fa 0, fd 0⟩ d_is_integer := fun G cdv A outer s H E cl => by
  have tk : Takes (Ctx P w K mg base ⟨"is_integer", "is_integer", st0, N0, P0, fa 0, fd 0⟩ cdv A outer s H E) (WB E) := takes_of rfl rfl rfl rfl
  have ps := passes_of (X := Ctx P w K mg base ⟨"is_integer", "is_integer", st0, N0, P0, fa 0, fd 0⟩ cdv A outer s H E) rfl
  have hu := cl.room.units
  have hu5 := hu_five cl.room
  have hC : (⟨K, cA⟩ : Cfg).K = K := rfl
  have sc := sc0
  show PSs _ _ (tS _ _ (b_is_integer G))
  delta b_is_integer
  exact (ms_one (m_ret (m_and (m_isi (c := "int") hC (m_var (i := 0)) T.n_isinstance T.n_int) (m_one (m_not (m_isi (c := "bool") hC (m_var (i := 0)) T.n_isinstance T.n_bool))))))
theorem bd1 (T : Txt w cA K mg fa) : BodyOk ⟨K, cA⟩ P w K mg base (ent fa fd) ⟨"is_tuple", "is_tuple", st1, N1, P1, fa 1, fd 1⟩ d_is_tuple := fun G cdv A outer s H E cl => by
  have tk : Takes (Ctx P w K mg base ⟨"is_tuple", "is_tuple", st1, N1, P1, fa 1, fd 1⟩ cdv A outer s H E) (WB E) := takes_of rfl rfl rfl rfl
  have ps := passes_of (X := Ctx P w K mg base ⟨"is_tuple", "is_tuple", st1, N1, P1, fa 1, fd 1⟩ cdv A outer s H E) rfl
  have hu := cl.room.units
  have hu5 := hu_five cl.room
  have hC : (⟨K, cA⟩ : Cfg).K = K := rfl
  have sc := sc1
  show PSs _ _ (tS _ _ (b_is_tuple G))
  delta b_is_tuple
  exact (ms_one (m_ret (m_and (m_isi (c := "tuple") hC (m_var (i := 0)) T.n_isinstance T.n_tuple) (m_one (m_cmp (op_eqM hu) sim_eq (m_bif call_len sim_len T.n_len (ma_cons (m_var (i := 0)) ma_nil)) (m_var (i := 1)))))))
theorem bd2 (T : Txt w cA K mg fa) : BodyOk ⟨K, cA⟩ P w K mg base (ent fa fd) ⟨"is_small", "is_small", st2, N2, P2, fa 2, fd 2⟩ d_is_small := fun G cdv A outer s H E cl => by
  have tk : Takes (Ctx P w K mg base ⟨"is_small", "is_small", st2, N2, P2, fa 2, fd 2⟩ cdv A outer s H E) (WB E) := takes_of rfl rfl rfl rfl
  have ps := passes_of (X := Ctx P w K mg base ⟨"is_small", "is_small", st2, N2, P2, fa 2, fd 2⟩ cdv A outer s H E) rfl
  have hu := cl.room.units
  have hu5 := hu_five cl.room
  have hC : (⟨K, cA⟩ : Cfg).K = K := rfl
  have sc := sc2
  show PSs _ _ (tS _ _ (b_is_small G))
  delta b_is_small
  exact (ms_one (m_ret (m_and (m_call (cl.call 0 _ rfl) T.g_is_integer tk (ma_cons (m_var (i := 0)) ma_nil)) (m_one (m_chain op_leM sim_le op_leM sim_le (m_int) (m_var (i := 0)) (m_globE T.c_MOST_NUMBER))))))
theorem bd3 (T : Txt w cA K mg fa) : BodyOk ⟨K, cA⟩ P w K mg base (ent fa fd) ⟨"are_slots", "are_slots", st3, N3, P3, fa 3, fd 3⟩ d_are_slots := fun G cdv A outer s H E cl => by
  have tk : Takes (Ctx P w K mg base ⟨"are_slots", "are_slots", st3, N3, P3, fa 3, fd 3⟩ cdv A outer s H E) (WB E) := takes_of rfl rfl rfl rfl
  have ps := passes_of (X := Ctx P w K mg base ⟨"are_slots", "are_slots", st3, N3, P3, fa 3, fd 3⟩ cdv A outer s H E) rfl
  have hu := cl.room.units
  have hu5 := hu_five cl.room
  have hC : (⟨K, cA⟩ : Cfg).K = K := rfl
  have sc := sc3
  show PSs _ _ (tS _ _ (b_are_slots G))
  delta b_are_slots
  exact (ms_cons (m_if (PW.pt (mw_or (mt_not (mt_val (m_isi (c := "tuple") hC (m_var (i := 0)) T.n_isinstance T.n_tuple) hC)) (mw_or1 (mt_not (mt_val (m_gc (m_bif (cr_all rfl) sim_allG T.n_all (ma_cons (m_lc (own := [("slot", 2)]) rfl sc.nd (mi_any hC (m_var (i := 0))) (blkOk_by (by kernel_rfl)) (fun _ _ _ _ _ => mg_name (i := 2) sc.nd) (fun _ _ _ _ _ => mts_nil) (fun _ _ _ _ _ => m_and (m_call (cl.call 2 _ rfl) T.g_is_small takes0 (ma_cons (m_var (i := 2)) ma_nil)) (m_one (m_cmp op_ltM sim_lt (m_var (i := 2)) (m_var (i := 1)))))) ma_nil))) hC))))) (
ms_one (m_ret (m_bl))) (
ms_nil)) (
ms_one (m_ret (m_cmp (op_eqM hu) sim_eq (m_lenSet hC T.n_len T.n_set (m_var (i := 0))) (m_bif call_len sim_len T.n_len (ma_cons (m_var (i := 0)) ma_nil))))))
theorem bd4 (T : Txt w cA K mg fa) : BodyOk ⟨K, cA⟩ P w K mg base (ent fa fd) ⟨"is_row", "is_row", st4, N4, P4, fa 4, fd 4⟩ d_is_row := fun G cdv A outer s H E cl => by
  have tk : Takes (Ctx P w K mg base ⟨"is_row", "is_row", st4, N4, P4, fa 4, fd 4⟩ cdv A outer s H E) (WB E) := takes_of rfl rfl rfl rfl
  have ps := passes_of (X := Ctx P w K mg base ⟨"is_row", "is_row", st4, N4, P4, fa 4, fd 4⟩ cdv A outer s H E) rfl
  have hu := cl.room.units
  have hu5 := hu_five cl.room
  have hC : (⟨K, cA⟩ : Cfg).K = K := rfl
  have sc := sc4
  show PSs _ _ (tS _ _ (b_is_row G))
  delta b_is_row
  exact (ms_cons (m_if (PW.pt (mw_or (mt_not (mt_val (m_isi (c := "tuple") hC (m_var (i := 0)) T.n_isinstance T.n_tuple) hC)) (mw_or (mt_cmp (op_eqM hu) sim_eq (m_var (i := 0)) (m_tup (ma_nil))) (mw_or (mt_not (mt_val (m_isi (c := "str") hC (m_ix hC (m_var (i := 0)) (m_int)) T.n_isinstance T.n_str) hC)) (mw_or1 (mt_kdNotIn (T.k_SIZES.k) (m_ix hC (m_var (i := 0)) (m_int)))))))) (
ms_one (m_ret (m_bl))) (
ms_nil)) (
ms_one (m_ret (m_call (cl.call 1 _ rfl) T.g_is_tuple tk (ma_cons (m_var (i := 0)) (ma_cons (m_op op_addM sim_add (m_int) (m_kd T.w_SIZES hC (m_ix hC (m_var (i := 0)) (m_int)))) ma_nil))))))
theorem bd5 (T : Txt w cA K mg fa) : BodyOk ⟨K, cA⟩ P w K mg base (ent fa fd) ⟨"is_code", "is_code", st5, N5, P5, fa 5, fd 5⟩ d_is_code := fun G cdv A outer s H E cl => by
  have tk : Takes (Ctx P w K mg base ⟨"is_code", "is_code", st5, N5, P5, fa 5, fd 5⟩ cdv A outer s H E) (WB E) := takes_of rfl rfl rfl rfl
  have ps := passes_of (X := Ctx P w K mg base ⟨"is_code", "is_code", st5, N5, P5, fa 5, fd 5⟩ cdv A outer s H E) rfl
  have hu := cl.room.units
  have hu5 := hu_five cl.room
  have hC : (⟨K, cA⟩ : Cfg).K = K := rfl
  have sc := sc5
  show PSs _ _ (tS _ _ (b_is_code G))
  delta b_is_code
  exact (ms_cons (m_if (PW.pt (mw_or (mt_not (mt_val (m_isi (c := "tuple") hC (m_var (i := 0)) T.n_isinstance T.n_tuple) hC)) (mw_or1 (mt_not (mt_chain op_leM sim_le op_leM sim_le (m_int) (m_bif call_len sim_len T.n_len (ma_cons (m_var (i := 0)) ma_nil)) (m_globE T.c_MOST_CODE)))))) (
ms_one (m_ret (m_bl))) (
ms_nil)) (
ms_cons (m_set (i := 6) sc.nd (m_new (c := 0) (cl.call 27 _ rfl) T.mk_Sizes T.x_Sizes (ma_cons (m_bif call_len sim_len T.n_len (ma_cons (m_var (i := 0)) ma_nil)) (ma_cons (m_var (i := 1)) (ma_cons (m_var (i := 2)) (ma_cons (m_var (i := 3)) (ma_cons (m_var (i := 4)) (ma_cons (m_var (i := 5)) ma_nil)))))))) (
ms_one (m_ret (m_gc (m_bif (cr_all rfl) sim_allG T.n_all (ma_cons (m_lc (own := [("row", 7)]) rfl sc.nd (mi_any hC (m_var (i := 0))) (blkOk_by (by kernel_rfl)) (fun _ _ _ _ _ => mg_name (i := 7) sc.nd) (fun _ _ _ _ _ => mts_nil) (fun _ _ _ _ _ => m_and (m_call (cl.call 4 _ rfl) T.g_is_row takes0 (ma_cons (m_var (i := 7)) ma_nil)) (m_one (m_mth (c := 0) (m := [102, 105, 116, 115]) rfl (cl.call 28 _ rfl) T.cl_Sizes T.m_Sizes_fits (m_var (i := 6)) (ma_cons (m_var (i := 7)) ma_nil))))) ma_nil)))))))
theorem bd6 (T : Txt w cA K mg fa) : BodyOk ⟨K, cA⟩ P w K mg base (ent fa fd) ⟨"write_integer", "write_integer", st6, N6, P6, fa 6, fd 6⟩ d_write_integer := fun G cdv A outer s H E cl => by
  have tk : Takes (Ctx P w K mg base ⟨"write_integer", "write_integer", st6, N6, P6, fa 6, fd 6⟩ cdv A outer s H E) (WB E) := takes_of rfl rfl rfl rfl
  have ps := passes_of (X := Ctx P w K mg base ⟨"write_integer", "write_integer", st6, N6, P6, fa 6, fd 6⟩ cdv A outer s H E) rfl
  have hu := cl.room.units
  have hu5 := hu_five cl.room
  have hC : (⟨K, cA⟩ : Cfg).K = K := rfl
  have sc := sc6
  show PSs _ _ (tS _ _ (b_write_integer G))
  delta b_write_integer
  exact (ms_cons (m_if (mt_cmp op_ltM sim_lt (m_var (i := 0)) (m_int)) (
ms_one (m_ret (m_op op_addM sim_add (m_str) (m_call (cl.call 6 _ rfl) T.g_write_integer tk (ma_cons (m_un un_neg sim_neg (m_var (i := 0))) ma_nil))))) (
ms_nil)) (
ms_cons (m_set (i := 1) sc.nd (m_lst (ma_nil))) (
ms_cons (m_while ps (mt_cmp op_geM sim_ge (m_var (i := 0)) (m_globE T.c_BASE)) (
ms_cons (m_asg (vs := [0, 2]) (m_bif call_divmodW sim_divmod T.n_divmod (ma_cons (m_var (i := 0)) (ma_cons (m_globE T.c_BASE) ma_nil))) (mg_tup rfl hC (mgs_cons (mg_name (i := 0) sc.nd) (mgs_cons (mg_name (i := 2) sc.nd) (mgs_nil))))) (
ms_one (m_ex (m_met (ty := .list) hC PySem.F.plainAttrs_list PySem.F.slot_list_append PySem.F.type_list_append mt_append sim_append (m_var (i := 1)) (ma_cons (m_met (ty := .str) hC PySem.F.plainAttrs_str PySem.F.slot_str_zfill PySem.F.type_str_zfill mt_zfill sim_zfill (m_bty call_str_int sim_str T.n_str (ma_cons (m_var (i := 2)) ma_nil)) (ma_cons (m_int) ma_nil)) ma_nil)))))) (
ms_cons (m_ex (m_met (ty := .list) hC PySem.F.plainAttrs_list PySem.F.slot_list_append PySem.F.type_list_append mt_append sim_append (m_var (i := 1)) (ma_cons (m_bty call_str_int sim_str T.n_str (ma_cons (m_var (i := 0)) ma_nil)) ma_nil))) (
ms_one (m_ret (m_met (ty := .str) hC PySem.F.plainAttrs_str PySem.F.slot_str_join PySem.F.type_str_join mt_join sim_join (m_str) (ma_cons (m_revA hC (m_var (i := 1))) ma_nil))))))))
theorem bd7 (T : Txt w cA K mg fa) : BodyOk ⟨K, cA⟩ P w K mg base (ent fa fd) ⟨"read_integer", "read_integer", st7, N7, P7, fa 7, fd 7⟩ d_read_integer := fun G cdv A outer s H E cl => by
  have tk : Takes (Ctx P w K mg base ⟨"read_integer", "read_integer", st7, N7, P7, fa 7, fd 7⟩ cdv A outer s H E) (WB E) := takes_of rfl rfl rfl rfl
  have ps := passes_of (X := Ctx P w K mg base ⟨"read_integer", "read_integer", st7, N7, P7, fa 7, fd 7⟩ cdv A outer s H E) rfl
  have hu := cl.room.units
  have hu5 := hu_five cl.room
  have hC : (⟨K, cA⟩ : Cfg).K = K := rfl
  have sc := sc7
  show PSs _ _ (tS _ _ (b_read_integer G))
  delta b_read_integer
  exact (ms_cons (m_set (i := 1) sc.nd (m_var (i := 0))) (
ms_cons (m_if (mt_cmp (op_eqM hu) sim_eq (m_slice hC (m_var (i := 0)) (mo_none) (mo_some (m_int))) (m_str)) (
ms_one (m_set (i := 1) sc.nd (m_slice hC (m_var (i := 0)) (mo_some (m_int)) (mo_none)))) (
ms_nil)) (
ms_cons (m_if (PW.pt (mw_or (mt_cmp (op_eqM hu) sim_eq (m_var (i := 1)) (m_str)) (mw_or1 (PW.pt (mw_and (mt_cmp (op_eqM hu) sim_eq (m_ix hC (m_var (i := 1)) (m_int)) (m_str)) (mw_and1 (mt_cmp (op_neM hu) sim_ne (m_var (i := 0)) (m_str)))))))) (
ms_one (m_raise (c := 2) rfl tk T.e_BadText T.x_BadText)) (
ms_nil)) (
ms_cons (m_for (vs := [2]) ps rfl (mi_any hC (m_var (i := 1))) (mg_name (i := 2) sc.nd) (
ms_one (m_if (mt_cmp op_notInM sim_notIn (m_var (i := 2)) (m_globE T.c_DIGITS)) (
ms_one (m_raise (c := 2) rfl tk T.e_BadText T.x_BadText)) (
ms_nil)))) (
ms_cons (m_set (i := 3) sc.nd (m_op op_mod sim_mod (m_bif call_len sim_len T.n_len (ma_cons (m_var (i := 1)) ma_nil)) (m_int))) (
ms_cons (m_set (i := 4) sc.nd (m_int)) (
ms_cons (m_if (mt_cmp op_gtM sim_gt (m_var (i := 3)) (m_int)) (
ms_one (m_set (i := 4) sc.nd (m_bty call_intOf sim_intOf T.n_int (ma_cons (m_slice hC (m_var (i := 1)) (mo_none) (mo_some (m_var (i := 3)))) ma_nil)))) (
ms_nil)) (
ms_cons (m_for (vs := [5]) ps rfl (mi_range3 T.n_range (ma_cons (m_var (i := 3)) (ma_cons (m_bif call_len sim_len T.n_len (ma_cons (m_var (i := 1)) ma_nil)) (ma_cons (m_int) ma_nil)))) (mg_name (i := 5) sc.nd) (
ms_one (m_set (i := 4) sc.nd (m_op op_addM sim_add (m_op op_mulM sim_mul (m_var (i := 4)) (m_globE T.c_BASE)) (m_bty call_intOf sim_intOf T.n_int (ma_cons (m_slice hC (m_var (i := 1)) (mo_some (m_var (i := 5))) (mo_some (m_op op_addM sim_add (m_var (i := 5)) (m_int)))) ma_nil)))))) (
ms_cons (m_if (mt_cmp (op_eqM hu) sim_eq (m_ix hC (m_var (i := 0)) (m_int)) (m_str)) (
ms_one (m_ret (m_un un_neg sim_neg (m_var (i := 4))))) (
ms_nil)) (
ms_one (m_ret (m_var (i := 4)))))))))))))
theorem bd8 (T : Txt w cA K mg fa) : BodyOk ⟨K, cA⟩ P w K mg base (ent fa fd) ⟨"row_text", "row_text", st8, N8, P8, fa 8, fd 8⟩ d_row_text := fun G cdv A outer s H E cl => by
  have tk : Takes (Ctx P w K mg base ⟨"row_text", "row_text", st8, N8, P8, fa 8, fd 8⟩ cdv A outer s H E) (WB E) := takes_of rfl rfl rfl rfl
  have ps := passes_of (X := Ctx P w K mg base ⟨"row_text", "row_text", st8, N8, P8, fa 8, fd 8⟩ cdv A outer s H E) rfl
  have hu := cl.room.units
  have hu5 := hu_five cl.room
  have hC : (⟨K, cA⟩ : Cfg).K = K := rfl
  have sc := sc8
  show PSs _ _ (tS _ _ (b_row_text G))
  delta b_row_text
  exact (ms_cons (m_if (mt_cmp (op_eqM hu) sim_eq (m_ix hC (m_var (i := 0)) (m_int)) (m_globE T.c_CALL)) (
ms_one (m_ret (m_gc (m_met (ty := .str) hC PySem.F.plainAttrs_str PySem.F.slot_str_join PySem.F.type_str_join mt_join sim_join (m_str) (ma_cons (m_op op_addM sim_add (m_lst (ma_cons (m_globE T.c_CALL) (ma_cons (m_call (cl.call 6 _ rfl) T.g_write_integer tk (ma_cons (m_ix hC (m_var (i := 0)) (m_int)) ma_nil)) ma_nil))) (m_lc (own := [("slot", 1)]) rfl sc.nd (mi_any hC (m_ix hC (m_var (i := 0)) (m_int))) (blkOk_by (by kernel_rfl)) (fun _ _ _ _ _ => mg_name (i := 1) sc.nd) (fun _ _ _ _ _ => mts_nil) (fun _ _ _ _ _ => m_call (cl.call 6 _ rfl) T.g_write_integer takes0 (ma_cons (m_var (i := 1)) ma_nil)))) ma_nil))))) (
ms_nil)) (
ms_one (m_ret (m_gc (m_met (ty := .str) hC PySem.F.plainAttrs_str PySem.F.slot_str_join PySem.F.type_str_join mt_join sim_join (m_str) (ma_cons (m_op op_addM sim_add (m_lst (ma_cons (m_ix hC (m_var (i := 0)) (m_int)) ma_nil)) (m_lc (own := [("number", 2)]) rfl sc.nd (mi_any hC (m_slice hC (m_var (i := 0)) (mo_some (m_int)) (mo_none))) (blkOk_by (by kernel_rfl)) (fun _ _ _ _ _ => mg_name (i := 2) sc.nd) (fun _ _ _ _ _ => mts_nil) (fun _ _ _ _ _ => m_call (cl.call 6 _ rfl) T.g_write_integer takes0 (ma_cons (m_var (i := 2)) ma_nil)))) ma_nil))))))
theorem bd9 (T : Txt w cA K mg fa) : BodyOk ⟨K, cA⟩ P w K mg base (ent fa fd) ⟨"write_code", "write_code", st9, N9, P9, fa 9, fd 9⟩ d_write_code := fun G cdv A outer s H E cl => by
  have tk : Takes (Ctx P w K mg base ⟨"write_code", "write_code", st9, N9, P9, fa 9, fd 9⟩ cdv A outer s H E) (WB E) := takes_of rfl rfl rfl rfl
  have ps := passes_of (X := Ctx P w K mg base ⟨"write_code", "write_code", st9, N9, P9, fa 9, fd 9⟩ cdv A outer s H E) rfl
  have hu := cl.room.units
  have hu5 := hu_five cl.room
  have hC : (⟨K, cA⟩ : Cfg).K = K := rfl
  have sc := sc9
  show PSs _ _ (tS _ _ (b_write_code G))
  delta b_write_code
  exact (ms_one (m_ret (m_gc (m_met (ty := .str) hC PySem.F.plainAttrs_str PySem.F.slot_str_join PySem.F.type_str_join mt_join sim_join (m_str) (ma_cons (m_lc (own := [("one", 1)]) rfl sc.nd (mi_any hC (m_var (i := 0))) (blkOk_by (by kernel_rfl)) (fun _ _ _ _ _ => mg_name (i := 1) sc.nd) (fun _ _ _ _ _ => mts_nil) (fun _ _ _ _ _ => m_op op_addM sim_add (m_call (cl.call 8 _ rfl) T.g_row_text takes0 (ma_cons (m_var (i := 1)) ma_nil)) (m_str))) ma_nil)))))
theorem bd10 (T : Txt w cA K mg fa) : BodyOk ⟨K, cA⟩ P w K mg base (ent fa fd) ⟨"read_row", "read_row", st10, N10, P10, fa 10, fd 10⟩ d_read_row := fun G cdv A outer s H E cl => by
  have tk : Takes (Ctx P w K mg base ⟨"read_row", "read_row", st10, N10, P10, fa 10, fd 10⟩ cdv A outer s H E) (WB E) := takes_of rfl rfl rfl rfl
  have ps := passes_of (X := Ctx P w K mg base ⟨"read_row", "read_row", st10, N10, P10, fa 10, fd 10⟩ cdv A outer s H E) rfl
  have hu := cl.room.units
  have hu5 := hu_five cl.room
  have hC : (⟨K, cA⟩ : Cfg).K = K := rfl
  have sc := sc10
  show PSs _ _ (tS _ _ (b_read_row G))
  delta b_read_row
  exact (ms_cons (m_set (i := 1) sc.nd (m_met (ty := .str) hC PySem.F.plainAttrs_str PySem.F.slot_str_split PySem.F.type_str_split mt_split sim_split (m_var (i := 0)) (ma_cons (m_str) ma_nil))) (
ms_cons (m_set (i := 2) sc.nd (m_kdGet hC T.k_KINDS (m_ix hC (m_var (i := 1)) (m_int)) (m_str))) (
ms_cons (m_setLcX (i := 3) (own := [("word", 4)]) rfl sc.nd rfl (sw_true rfl rfl rfl (by kernel_rfl)) tk (mi_any hC (m_slice hC (m_var (i := 1)) (mo_some (m_int)) (mo_none))) (blkOk_by (by kernel_rfl)) (fun _ _ _ _ _ => mg_name (i := 4) sc.nd) (fun _ _ _ _ _ => mts_nil) (fun _ _ _ _ _ _ _ _ tk3 => m_callP (cl.call 7 _ rfl) T.g_read_integer tk3 (ma_cons (m_var (i := 4)) ma_nil))) (
ms_cons (m_if (mt_cmp (op_eqM hu) sim_eq (m_var (i := 2)) (m_str)) (
ms_cons (m_if (mt_cmp (op_eqM hu) sim_eq (m_var (i := 3)) (m_lst (ma_nil))) (
ms_one (m_raise (c := 2) rfl tk T.e_BadText T.x_BadText)) (
ms_nil)) (
ms_one (m_ret (m_tup (ma_cons (m_globE T.c_CALL) (ma_cons (m_ix hC (m_var (i := 3)) (m_int)) (ma_cons (m_bty call_tuple_of sim_tuple T.n_tuple (ma_cons (m_slice hC (m_var (i := 3)) (mo_some (m_int)) (mo_none)) ma_nil)) ma_nil))))))) (
ms_nil)) (
ms_cons (m_if (PW.pt (mw_or (mt_cmp (op_eqM hu) sim_eq (m_var (i := 2)) (m_str)) (mw_or1 (mt_cmp (op_neM hu) sim_ne (m_bif call_len sim_len T.n_len (ma_cons (m_var (i := 3)) ma_nil)) (m_kdGet hC T.k_MANY (m_var (i := 2)) (m_int)))))) (
ms_one (m_raise (c := 2) rfl tk T.e_BadText T.x_BadText)) (
ms_nil)) (
ms_one (m_ret (m_op op_addM sim_add (m_tup (ma_cons (m_ix hC (m_var (i := 1)) (m_int)) ma_nil)) (m_bty call_tuple_of sim_tuple T.n_tuple (ma_cons (m_var (i := 3)) ma_nil))))))))))
theorem bd11 (T : Txt w cA K mg fa) : BodyOk ⟨K, cA⟩ P w K mg base (ent fa fd) ⟨"read_code", "read_code", st11, N11, P11, fa 11, fd 11⟩ d_read_code := fun G cdv A outer s H E cl => by
  have tk : Takes (Ctx P w K mg base ⟨"read_code", "read_code", st11, N11, P11, fa 11, fd 11⟩ cdv A outer s H E) (WB E) := takes_of rfl rfl rfl rfl
  have ps := passes_of (X := Ctx P w K mg base ⟨"read_code", "read_code", st11, N11, P11, fa 11, fd 11⟩ cdv A outer s H E) rfl
  have hu := cl.room.units
  have hu5 := hu_five cl.room
  have hC : (⟨K, cA⟩ : Cfg).K = K := rfl
  have sc := sc11
  show PSs _ _ (tS _ _ (b_read_code G))
  delta b_read_code
  exact (ms_cons (m_if (PW.pt (mw_or (mt_cmp (op_eqM hu) sim_eq (m_var (i := 0)) (m_str)) (mw_or1 (mt_cmp (op_neM hu) sim_ne (m_ix hC (m_var (i := 0)) (m_un un_neg sim_neg (m_int))) (m_str))))) (
ms_one (m_raise (c := 2) rfl tk T.e_BadText T.x_BadText)) (
ms_nil)) (
ms_one (m_ret (m_gc (m_bty call_tuple_of sim_tuple T.n_tuple (ma_cons (m_lcX (own := [("line", 1)]) rfl sc.nd tk (mi_any hC (m_slice hC (m_met (ty := .str) hC PySem.F.plainAttrs_str PySem.F.slot_str_split PySem.F.type_str_split mt_split sim_split (m_var (i := 0)) (ma_cons (m_str) ma_nil)) (mo_none) (mo_some (m_un un_neg sim_neg (m_int))))) (blkOk_by (by kernel_rfl)) (fun _ _ _ _ _ => mg_name (i := 1) sc.nd) (fun _ _ _ _ _ => mts_nil) (fun _ _ _ _ _ _ _ _ tk3 => m_callP (cl.call 10 _ rfl) T.g_read_row tk3 (ma_cons (m_var (i := 1)) ma_nil))) ma_nil))))))
theorem bd12 (T : Txt w cA K mg fa) : BodyOk ⟨K, cA⟩ P w K mg base (ent fa fd) ⟨"_law_start", "_law_start", st12, N12, P12, fa 12, fd 12⟩ d__law_start := fun G cdv A outer s H E cl => by
  have tk : Takes (Ctx P w K mg base ⟨"_law_start", "_law_start", st12, N12, P12, fa 12, fd 12⟩ cdv A outer s H E) (WB E) := takes_of rfl rfl rfl rfl
  have ps := passes_of (X := Ctx P w K mg base ⟨"_law_start", "_law_start", st12, N12, P12, fa 12, fd 12⟩ cdv A outer s H E) rfl
  have hu := cl.room.units
  have hu5 := hu_five cl.room
  have hC : (⟨K, cA⟩ : Cfg).K = K := rfl
  have sc := sc12
  show PSs _ _ (tS _ _ (b__law_start G))
  delta b__law_start
  exact (ms_one (m_ret (m_lst (ma_cons (m_bty (call_listM rfl) sim_listA T.n_list (ma_cons (m_var (i := 0)) ma_nil)) (ma_cons (m_int) (ma_cons (m_int) (ma_cons (m_int) ma_nil)))))))
theorem bd13 (T : Txt w cA K mg fa) : BodyOk ⟨K, cA⟩ P w K mg base (ent fa fd) ⟨"_law_draw", "_law_draw", st13, N13, P13, fa 13, fd 13⟩ d__law_draw := fun G cdv A outer s H E cl => by
  have tk : Takes (Ctx P w K mg base ⟨"_law_draw", "_law_draw", st13, N13, P13, fa 13, fd 13⟩ cdv A outer s H E) (WB E) := takes_of rfl rfl rfl rfl
  have ps := passes_of (X := Ctx P w K mg base ⟨"_law_draw", "_law_draw", st13, N13, P13, fa 13, fd 13⟩ cdv A outer s H E) rfl
  have hu := cl.room.units
  have hu5 := hu_five cl.room
  have hC : (⟨K, cA⟩ : Cfg).K = K := rfl
  have sc := sc13
  show PSs _ _ (tS _ _ (b__law_draw G))
  delta b__law_draw
  exact (ms_cons (m_asg (vs := []) (m_op op_addM sim_add (m_ix hC (m_var (i := 0)) (m_int)) (m_int)) (mg_ixL (m_var (i := 0)) (m_int))) (
ms_cons (m_if (mt_cmp op_gtM sim_gt (m_ix hC (m_var (i := 0)) (m_int)) (m_int)) (
ms_cons (m_set (i := 2) sc.nd (m_op op_mod sim_mod (m_bty call_intOf sim_intOf T.n_int (ma_cons (m_ix hC (m_var (i := 0)) (m_int)) ma_nil)) (m_var (i := 1)))) (
ms_cons (m_asg (vs := []) (m_op op_fdivW sim_div (m_ix hC (m_var (i := 0)) (m_int)) (m_var (i := 1))) (mg_ixL (m_var (i := 0)) (m_int))) (
ms_one (m_ret (m_var (i := 2)))))) (
ms_nil)) (
ms_cons (m_set (i := 3) sc.nd (m_int)) (
ms_cons (m_if (mt_cmp op_gtM sim_gt (m_bif call_len sim_len T.n_len (ma_cons (m_ix hC (m_var (i := 0)) (m_int)) ma_nil)) (m_int)) (
ms_one (m_set (i := 3) sc.nd (m_bif call_abs sim_abs T.n_abs (ma_cons (m_ixA hu hC (m_ix hC (m_var (i := 0)) (m_int)) (m_op op_mod sim_mod (m_bty call_intOf sim_intOf T.n_int (ma_cons (m_ix hC (m_var (i := 0)) (m_int)) ma_nil)) (m_bif call_len sim_len T.n_len (ma_cons (m_ix hC (m_var (i := 0)) (m_int)) ma_nil)))) ma_nil)))) (
ms_nil)) (
ms_cons (m_asg (vs := []) (m_op op_addM sim_add (m_ix hC (m_var (i := 0)) (m_int)) (m_int)) (mg_ixL (m_var (i := 0)) (m_int))) (
ms_cons (m_if (mt_cmp op_geM sim_ge (m_var (i := 3)) (m_op op_pow sim_pow (m_int) (m_int))) (
ms_cons (m_asg (vs := []) (m_op op_fdivW sim_div (m_var (i := 3)) (m_var (i := 1))) (mg_ixL (m_var (i := 0)) (m_int))) (
ms_one (m_ret (m_op op_mod sim_mod (m_bty call_intOf sim_intOf T.n_int (ma_cons (m_var (i := 3)) ma_nil)) (m_var (i := 1)))))) (
ms_nil)) (
ms_cons (m_set (i := 4) sc.nd (m_op op_mod sim_mod (m_bty call_intOf sim_intOf T.n_int (ma_cons (m_op op_addM sim_add (m_op op_mulM sim_mul (m_op op_addM sim_add (m_var (i := 3)) (m_int)) (m_int)) (m_op op_mulM sim_mul (m_ix hC (m_var (i := 0)) (m_int)) (m_int))) ma_nil)) (m_int))) (
ms_cons (m_set (i := 4) sc.nd (m_op op_mod sim_mod (m_bty call_intOf sim_intOf T.n_int (ma_cons (m_op op_addM sim_add (m_op op_addM sim_add (m_op op_mulM sim_mul (m_var (i := 4)) (m_int)) (m_op op_fdivW sim_div (m_var (i := 3)) (m_int))) (m_ix hC (m_var (i := 0)) (m_int))) ma_nil)) (m_int))) (
ms_one (m_ret (m_op op_mod sim_mod (m_op op_fdivW sim_div (m_var (i := 4)) (m_int)) (m_var (i := 1)))))))))))))
theorem bd14 (T : Txt w cA K mg fa) : BodyOk ⟨K, cA⟩ P w K mg base (ent fa fd) ⟨"_law_one_of", "_law_one_of", st14, N14, P14, fa 14, fd 14⟩ d__law_one_of := fun G cdv A outer s H E cl => by
  have tk : Takes (Ctx P w K mg base ⟨"_law_one_of", "_law_one_of", st14, N14, P14, fa 14, fd 14⟩ cdv A outer s H E) (WB E) := takes_of rfl rfl rfl rfl
  have ps := passes_of (X := Ctx P w K mg base ⟨"_law_one_of", "_law_one_of", st14, N14, P14, fa 14, fd 14⟩ cdv A outer s H E) rfl
  have hu := cl.room.units
  have hu5 := hu_five cl.room
  have hC : (⟨K, cA⟩ : Cfg).K = K := rfl
  have sc := sc14
  show PSs _ _ (tS _ _ (b__law_one_of G))
  delta b__law_one_of
  exact (ms_one (m_ret (m_ixA hu hC (m_var (i := 1)) (m_call (cl.call 13 _ rfl) T.g__law_draw tk (ma_cons (m_var (i := 0)) (ma_cons (m_bif call_len sim_len T.n_len (ma_cons (m_var (i := 1)) ma_nil)) ma_nil))))))
theorem bd15 (T : Txt w cA K mg fa) : BodyOk ⟨K, cA⟩ P w K mg base (ent fa fd) ⟨"_law_shuffled", "_law_shuffled", st15, N15, P15, fa 15, fd 15⟩ d__law_shuffled := fun G cdv A outer s H E cl => by
  have tk : Takes (Ctx P w K mg base ⟨"_law_shuffled", "_law_shuffled", st15, N15, P15, fa 15, fd 15⟩ cdv A outer s H E) (WB E) := takes_of rfl rfl rfl rfl
  have ps := passes_of (X := Ctx P w K mg base ⟨"_law_shuffled", "_law_shuffled", st15, N15, P15, fa 15, fd 15⟩ cdv A outer s H E) rfl
  have hu := cl.room.units
  have hu5 := hu_five cl.room
  have hC : (⟨K, cA⟩ : Cfg).K = K := rfl
  have sc := sc15
  show PSs _ _ (tS _ _ (b__law_shuffled G))
  delta b__law_shuffled
  exact (ms_cons (m_set (i := 2) sc.nd (m_lst (ma_nil))) (
ms_cons (m_for (vs := [3]) ps rfl (mi_any hC (m_var (i := 1))) (mg_name (i := 3) sc.nd) (
ms_one (m_ex (m_met (ty := .list) hC PySem.F.plainAttrs_list PySem.F.slot_list_insert PySem.F.type_list_insert mt_insertM sim_insert (m_var (i := 2)) (ma_cons (m_call (cl.call 13 _ rfl) T.g__law_draw tk (ma_cons (m_var (i := 0)) (ma_cons (m_op op_addM sim_add (m_bif call_len sim_len T.n_len (ma_cons (m_var (i := 2)) ma_nil)) (m_int)) ma_nil))) (ma_cons (m_var (i := 3)) ma_nil)))))) (
ms_one (m_ret (m_var (i := 2))))))
theorem bd16 (T : Txt w cA K mg fa) : BodyOk ⟨K, cA⟩ P w K mg base (ent fa fd) ⟨"_law_is_int", "_law_is_int", st16, N16, P16, fa 16, fd 16⟩ d__law_is_int := fun G cdv A outer s H E cl => by
  have tk : Takes (Ctx P w K mg base ⟨"_law_is_int", "_law_is_int", st16, N16, P16, fa 16, fd 16⟩ cdv A outer s H E) (WB E) := takes_of rfl rfl rfl rfl
  have ps := passes_of (X := Ctx P w K mg base ⟨"_law_is_int", "_law_is_int", st16, N16, P16, fa 16, fd 16⟩ cdv A outer s H E) rfl
  have hu := cl.room.units
  have hu5 := hu_five cl.room
  have hC : (⟨K, cA⟩ : Cfg).K = K := rfl
  have sc := sc16
  show PSs _ _ (tS _ _ (b__law_is_int G))
  delta b__law_is_int
  exact (ms_one (m_ret (m_and (m_isi (c := "int") hC (m_var (i := 0)) T.n_isinstance T.n_int) (m_one (m_not (m_isi (c := "bool") hC (m_var (i := 0)) T.n_isinstance T.n_bool))))))
theorem bd17 (T : Txt w cA K mg fa) : BodyOk ⟨K, cA⟩ P w K mg base (ent fa fd) ⟨"_law_same", "_law_same", st17, N17, P17, fa 17, fd 17⟩ d__law_same := fun G cdv A outer s H E cl => by
  have tk : Takes (Ctx P w K mg base ⟨"_law_same", "_law_same", st17, N17, P17, fa 17, fd 17⟩ cdv A outer s H E) (WB E) := takes_of rfl rfl rfl rfl
  have ps := passes_of (X := Ctx P w K mg base ⟨"_law_same", "_law_same", st17, N17, P17, fa 17, fd 17⟩ cdv A outer s H E) rfl
  have hu := cl.room.units
  have hu5 := hu_five cl.room
  have hC : (⟨K, cA⟩ : Cfg).K = K := rfl
  have sc := sc17
  show PSs _ _ (tS _ _ (b__law_same G))
  delta b__law_same
  exact (ms_cons (m_if (mt_val (m_isi (c := "tuple") hC (m_var (i := 1)) T.n_isinstance T.n_tuple) hC) (
ms_cons (m_if (PW.pt (mw_or (mt_not (mt_val (m_isi (c := "tuple") hC (m_var (i := 0)) T.n_isinstance T.n_tuple) hC)) (mw_or1 (mt_cmp (op_neM hu) sim_ne (m_bif call_len sim_len T.n_len (ma_cons (m_var (i := 0)) ma_nil)) (m_bif call_len sim_len T.n_len (ma_cons (m_var (i := 1)) ma_nil)))))) (
ms_one (m_ret (m_bl))) (
ms_nil)) (
ms_one (m_ret (m_gc (m_bif (cr_all rfl) sim_allG T.n_all (ma_cons (m_lc (own := [("k", 2)]) rfl sc.nd (mi_range1 T.n_range (ma_cons (m_bif call_len sim_len T.n_len (ma_cons (m_var (i := 1)) ma_nil)) ma_nil)) (blkOk_by (by kernel_rfl)) (fun _ _ _ _ _ => mg_name (i := 2) sc.nd) (fun _ _ _ _ _ => mts_nil) (fun _ _ _ _ _ => m_call (cl.call 17 _ rfl) T.g__law_same takes0 (ma_cons (m_ixA hu hC (m_var (i := 0)) (m_var (i := 2))) (ma_cons (m_ixA hu hC (m_var (i := 1)) (m_var (i := 2))) ma_nil)))) ma_nil)))))) (
ms_nil)) (
ms_cons (m_if (mt_val (m_isi (c := "str") hC (m_var (i := 1)) T.n_isinstance T.n_str) hC) (
ms_one (m_ret (m_and (m_isi (c := "str") hC (m_var (i := 0)) T.n_isinstance T.n_str) (m_one (m_cmp (op_eqM hu) sim_eq (m_var (i := 0)) (m_var (i := 1))))))) (
ms_nil)) (
ms_one (m_ret (m_and (m_call (cl.call 16 _ rfl) T.g__law_is_int tk (ma_cons (m_var (i := 0)) ma_nil)) (m_one (m_cmp (op_eqM hu) sim_eq (m_var (i := 0)) (m_var (i := 1)))))))))
theorem bd18 (T : Txt w cA K mg fa) : BodyOk ⟨K, cA⟩ P w K mg base (ent fa fd) ⟨"_law_says", "_law_says", st18, N18, P18, fa 18, fd 18⟩ d__law_says := fun G cdv A outer s H E cl => by
  have tk : Takes (Ctx P w K mg base ⟨"_law_says", "_law_says", st18, N18, P18, fa 18, fd 18⟩ cdv A outer s H E) (WB E) := takes_of rfl rfl rfl rfl
  have ps := passes_of (X := Ctx P w K mg base ⟨"_law_says", "_law_says", st18, N18, P18, fa 18, fd 18⟩ cdv A outer s H E) rfl
  have hu := cl.room.units
  have hu5 := hu_five cl.room
  have hC : (⟨K, cA⟩ : Cfg).K = K := rfl
  have sc := sc18
  show PSs _ _ (tS _ _ (b__law_says G))
  delta b__law_says
  exact (ms_cons (m_if (mt_val (m_var (i := 1)) hC) (
ms_one (m_ret (m_cmp op_isM sim_isG (m_var (i := 0)) (m_bl)))) (
ms_nil)) (
ms_one (m_ret (m_cmp op_isM sim_isG (m_var (i := 0)) (m_bl)))))
theorem bd19 (T : Txt w cA K mg fa) : BodyOk ⟨K, cA⟩ P w K mg base (ent fa fd) ⟨"_law_bent", "_law_bent", st19, N19, P19, fa 19, fd 19⟩ d__law_bent := fun G cdv A outer s H E cl => by
  have tk : Takes (Ctx P w K mg base ⟨"_law_bent", "_law_bent", st19, N19, P19, fa 19, fd 19⟩ cdv A outer s H E) (WB E) := takes_of rfl rfl rfl rfl
  have ps := passes_of (X := Ctx P w K mg base ⟨"_law_bent", "_law_bent", st19, N19, P19, fa 19, fd 19⟩ cdv A outer s H E) rfl
  have hu := cl.room.units
  have hu5 := hu_five cl.room
  have hC : (⟨K, cA⟩ : Cfg).K = K := rfl
  have sc := sc19
  show PSs _ _ (tS _ _ (b__law_bent G))
  delta b__law_bent
  exact (ms_cons (m_if (PW.pt (mw_and (mt_val (m_isi (c := "tuple") hC (m_var (i := 1)) T.n_isinstance T.n_tuple) hC) (mw_and (mt_cmp op_gtM sim_gt (m_bif call_len sim_len T.n_len (ma_cons (m_var (i := 1)) ma_nil)) (m_int)) (mw_and (mt_cmp op_ltM sim_lt (m_var (i := 2)) (m_int)) (mw_and1 (mt_cmp op_gtM sim_gt (m_call (cl.call 13 _ rfl) T.g__law_draw tk (ma_cons (m_var (i := 0)) (ma_cons (m_int) ma_nil))) (m_int))))))) (
ms_cons (m_set (i := 3) sc.nd (m_call (cl.call 13 _ rfl) T.g__law_draw tk (ma_cons (m_var (i := 0)) (ma_cons (m_bif call_len sim_len T.n_len (ma_cons (m_var (i := 1)) ma_nil)) ma_nil)))) (
ms_one (m_ret (m_op op_addM sim_add (m_op op_addM sim_add (m_slice hC (m_var (i := 1)) (mo_none) (mo_some (m_var (i := 3)))) (m_tup (ma_cons (m_call (cl.call 19 _ rfl) T.g__law_bent tk (ma_cons (m_var (i := 0)) (ma_cons (m_ixA hu hC (m_var (i := 1)) (m_var (i := 3))) (ma_cons (m_op op_addM sim_add (m_var (i := 2)) (m_int)) ma_nil)))) ma_nil))) (m_slice hC (m_var (i := 1)) (mo_some (m_op op_addM sim_add (m_var (i := 3)) (m_int))) (mo_none)))))) (
ms_nil)) (
ms_cons (m_if (mt_val (m_isi (c := "tuple") hC (m_var (i := 1)) T.n_isinstance T.n_tuple) hC) (
ms_cons (m_set (i := 3) sc.nd (m_call (cl.call 13 _ rfl) T.g__law_draw tk (ma_cons (m_var (i := 0)) (ma_cons (m_op op_addM sim_add (m_bif call_len sim_len T.n_len (ma_cons (m_var (i := 1)) ma_nil)) (m_int)) ma_nil)))) (
ms_cons (m_set (i := 4) sc.nd (m_lst (ma_cons (m_op op_addM sim_add (m_slice hC (m_var (i := 1)) (mo_none) (mo_some (m_var (i := 3)))) (m_slice hC (m_var (i := 1)) (mo_some (m_op op_addM sim_add (m_var (i := 3)) (m_int))) (mo_none))) (ma_cons (m_op op_addM sim_add (m_op op_addM sim_add (m_slice hC (m_var (i := 1)) (mo_none) (mo_some (m_var (i := 3)))) (m_slice hC (m_var (i := 1)) (mo_some (m_var (i := 3))) (mo_some (m_op op_addM sim_add (m_var (i := 3)) (m_int))))) (m_slice hC (m_var (i := 1)) (mo_some (m_var (i := 3))) (mo_none))) (ma_cons (m_op op_addM sim_add (m_var (i := 1)) (m_tup (ma_cons (m_int) ma_nil))) (ma_cons (m_tup (ma_nil)) (ma_cons (m_int) ma_nil))))))) (
ms_one (m_ret (m_call (cl.call 14 _ rfl) T.g__law_one_of tk (ma_cons (m_var (i := 0)) (ma_cons (m_op op_addM sim_add (m_var (i := 4)) (m_lst (ma_cons (m_op op_addM sim_add (m_slice hC (m_var (i := 1)) (mo_some (m_var (i := 3))) (mo_none)) (m_slice hC (m_var (i := 1)) (mo_none) (mo_some (m_var (i := 3))))) (ma_cons (m_revA hC (m_var (i := 1))) (ma_cons (m_str) (ma_cons (m_tup (ma_cons (m_var (i := 1)) ma_nil)) ma_nil)))))) ma_nil))))))) (
ms_nil)) (
ms_cons (m_if (mt_val (m_isi (c := "str") hC (m_var (i := 1)) T.n_isinstance T.n_str) hC) (
ms_one (m_ret (m_call (cl.call 14 _ rfl) T.g__law_one_of tk (ma_cons (m_var (i := 0)) (ma_cons (m_lst (ma_cons (m_str) (ma_cons (m_str) (ma_cons (m_str) (ma_cons (m_op op_addM sim_add (m_var (i := 1)) (m_str)) (ma_cons (m_slice hC (m_var (i := 1)) (mo_some (m_int)) (mo_none)) (ma_cons (m_slice hC (m_var (i := 1)) (mo_none) (mo_some (m_un un_neg sim_neg (m_int)))) (ma_cons (m_int) (ma_cons (m_tup (ma_nil)) ma_nil))))))))) ma_nil))))) (
ms_nil)) (
ms_one (m_ret (m_call (cl.call 14 _ rfl) T.g__law_one_of tk (ma_cons (m_var (i := 0)) (ma_cons (m_lst (ma_cons (m_op op_addM sim_add (m_var (i := 1)) (m_int)) (ma_cons (m_op op_sub sim_int2 (m_var (i := 1)) (m_int)) (ma_cons (m_un un_neg sim_neg (m_var (i := 1))) (ma_cons (m_op op_mulM sim_mul (m_int) (m_var (i := 1))) (ma_cons (m_int) (ma_cons (m_bty call_str_int sim_str T.n_str (ma_cons (m_var (i := 1)) ma_nil)) (ma_cons (m_tup (ma_cons (m_var (i := 1)) ma_nil)) ma_nil)))))))) ma_nil))))))))
theorem bd20 (T : Txt w cA K mg fa) : BodyOk ⟨K, cA⟩ P w K mg base (ent fa fd) ⟨"_law_some_row", "_law_some_row", st20, N20, P20, fa 20, fd 20⟩ d__law_some_row := fun G cdv A outer s H E cl => by
  have tk : Takes (Ctx P w K mg base ⟨"_law_some_row", "_law_some_row", st20, N20, P20, fa 20, fd 20⟩ cdv A outer s H E) (WB E) := takes_of rfl rfl rfl rfl
  have ps := passes_of (X := Ctx P w K mg base ⟨"_law_some_row", "_law_some_row", st20, N20, P20, fa 20, fd 20⟩ cdv A outer s H E) rfl
  have hu := cl.room.units
  have hu5 := hu_five cl.room
  have hC : (⟨K, cA⟩ : Cfg).K = K := rfl
  have sc := sc20
  show PSs _ _ (tS _ _ (b__law_some_row G))
  delta b__law_some_row
  exact (ms_cons (m_asg (vs := [3, 4, 5, 6, 7]) (m_var (i := 2)) (mg_tup rfl hC (mgs_cons (mg_name (i := 3) sc.nd) (mgs_cons (mg_name (i := 4) sc.nd) (mgs_cons (mg_name (i := 5) sc.nd) (mgs_cons (mg_name (i := 6) sc.nd) (mgs_cons (mg_name (i := 7) sc.nd) (mgs_nil)))))))) (
ms_cons (m_set (i := 8) sc.nd (m_call (cl.call 13 _ rfl) T.g__law_draw tk (ma_cons (m_var (i := 0)) (ma_cons (m_int) ma_nil)))) (
ms_cons (m_set (i := 9) sc.nd (m_ixA hu hC (m_lst (ma_cons (m_op op_sub sim_int2 (m_call (cl.call 13 _ rfl) T.g__law_draw tk (ma_cons (m_var (i := 0)) (ma_cons (m_int) ma_nil))) (m_int)) (ma_cons (m_op op_mulM sim_mul (m_ixA hu hC (m_lst (ma_cons (m_int) (ma_cons (m_un un_neg sim_neg (m_int)) ma_nil))) (m_call (cl.call 13 _ rfl) T.g__law_draw tk (ma_cons (m_var (i := 0)) (ma_cons (m_int) ma_nil)))) (m_op op_pow sim_pow (m_int) (m_int))) ma_nil))) (m_bty call_intOf sim_intOf T.n_int (ma_cons (m_cmp (op_eqM hu) sim_eq (m_call (cl.call 13 _ rfl) T.g__law_draw tk (ma_cons (m_var (i := 0)) (ma_cons (m_int) ma_nil))) (m_int)) ma_nil)))) (
ms_cons (m_if (mt_cmp (op_eqM hu) sim_eq (m_var (i := 8)) (m_int)) (
ms_one (m_ret (m_tup (ma_cons (m_call (cl.call 14 _ rfl) T.g__law_one_of tk (ma_cons (m_var (i := 0)) (ma_cons (m_lst (ma_cons (m_str) (ma_cons (m_str) ma_nil))) ma_nil))) (ma_cons (m_var (i := 9)) ma_nil))))) (
ms_nil)) (
ms_cons (m_if (mt_cmp (op_eqM hu) sim_eq (m_var (i := 8)) (m_int)) (
ms_one (m_ret (m_tup (ma_cons (m_call (cl.call 14 _ rfl) T.g__law_one_of tk (ma_cons (m_var (i := 0)) (ma_cons (m_lst (ma_cons (m_str) (ma_cons (m_str) ma_nil))) ma_nil))) (ma_cons (m_op op_addM sim_add (m_int) (m_call (cl.call 13 _ rfl) T.g__law_draw tk (ma_cons (m_var (i := 0)) (ma_cons (m_int) ma_nil)))) ma_nil))))) (
ms_nil)) (
ms_cons (m_if (PW.pt (mw_and (mt_cmp op_inM sim_in (m_var (i := 8)) (m_lst (ma_cons (m_int) (ma_cons (m_int) ma_nil)))) (mw_and1 (mt_cmp op_gtM sim_gt (m_var (i := 3)) (m_int))))) (
ms_one (m_ret (m_tup (ma_cons (m_ixA hu hC (m_lst (ma_cons (m_str) (ma_cons (m_str) ma_nil))) (m_op op_sub sim_int2 (m_var (i := 8)) (m_int))) (ma_cons (m_call (cl.call 13 _ rfl) T.g__law_draw tk (ma_cons (m_var (i := 0)) (ma_cons (m_var (i := 3)) ma_nil))) ma_nil))))) (
ms_nil)) (
ms_cons (m_if (PW.pt (mw_and (mt_cmp op_inM sim_in (m_var (i := 8)) (m_lst (ma_cons (m_int) (ma_cons (m_int) ma_nil)))) (mw_and1 (mt_cmp op_gtM sim_gt (m_var (i := 4)) (m_int))))) (
ms_one (m_ret (m_tup (ma_cons (m_call (cl.call 14 _ rfl) T.g__law_one_of tk (ma_cons (m_var (i := 0)) (ma_cons (m_lst (ma_cons (m_str) (ma_cons (m_str) (ma_cons (m_str) (ma_cons (m_str) ma_nil))))) ma_nil))) (ma_cons (m_call (cl.call 13 _ rfl) T.g__law_draw tk (ma_cons (m_var (i := 0)) (ma_cons (m_var (i := 4)) ma_nil))) ma_nil))))) (
ms_nil)) (
ms_cons (m_if (mt_cmp (op_eqM hu) sim_eq (m_var (i := 8)) (m_int)) (
ms_one (m_ret (m_tup (ma_cons (m_call (cl.call 14 _ rfl) T.g__law_one_of tk (ma_cons (m_var (i := 0)) (ma_cons (m_lst (ma_cons (m_str) (ma_cons (m_str) (ma_cons (m_str) ma_nil)))) ma_nil))) (ma_cons (m_call (cl.call 13 _ rfl) T.g__law_draw tk (ma_cons (m_var (i := 0)) (ma_cons (m_var (i := 1)) ma_nil))) ma_nil))))) (
ms_nil)) (
ms_cons (m_if (PW.pt (mw_and (mt_cmp (op_eqM hu) sim_eq (m_var (i := 8)) (m_int)) (mw_and1 (mt_cmp op_gtM sim_gt (m_var (i := 5)) (m_int))))) (
ms_cons (m_set (i := 10) sc.nd (m_slice hC (m_call (cl.call 15 _ rfl) T.g__law_shuffled tk (ma_cons (m_var (i := 0)) (ma_cons (m_rangeL T.n_list T.n_range (m_var (i := 4))) ma_nil))) (mo_none) (mo_some (m_call (cl.call 13 _ rfl) T.g__law_draw tk (ma_cons (m_var (i := 0)) (ma_cons (m_op op_addM sim_add (m_var (i := 4)) (m_int)) ma_nil)))))) (
ms_one (m_ret (m_tup (ma_cons (m_str) (ma_cons (m_call (cl.call 13 _ rfl) T.g__law_draw tk (ma_cons (m_var (i := 0)) (ma_cons (m_var (i := 5)) ma_nil))) (ma_cons (m_bty call_tuple_of sim_tuple T.n_tuple (ma_cons (m_var (i := 10)) ma_nil)) ma_nil))))))) (
ms_nil)) (
ms_cons (m_if (PW.pt (mw_and (mt_cmp op_inM sim_in (m_var (i := 8)) (m_lst (ma_cons (m_int) (ma_cons (m_int) ma_nil)))) (mw_and1 (mt_cmp op_gtM sim_gt (m_bif call_len sim_len T.n_len (ma_cons (m_var (i := 6)) ma_nil)) (m_int))))) (
ms_one (m_ret (m_tup (ma_cons (m_call (cl.call 14 _ rfl) T.g__law_one_of tk (ma_cons (m_var (i := 0)) (ma_cons (m_lst (ma_cons (m_str) (ma_cons (m_str) ma_nil))) ma_nil))) (ma_cons (m_call (cl.call 13 _ rfl) T.g__law_draw tk (ma_cons (m_var (i := 0)) (ma_cons (m_bif call_len sim_len T.n_len (ma_cons (m_var (i := 6)) ma_nil)) ma_nil))) ma_nil))))) (
ms_nil)) (
ms_cons (m_if (PW.pt (mw_and (mt_cmp op_inM sim_in (m_var (i := 8)) (m_lst (ma_cons (m_int) (ma_cons (m_int) ma_nil)))) (mw_and1 (mt_cmp op_gtM sim_gt (m_bif (call_sumM rfl) sim_sum T.n_sum (ma_cons (m_var (i := 6)) ma_nil)) (m_int))))) (
ms_cons (m_set (i := 11) sc.nd (m_call (cl.call 14 _ rfl) T.g__law_one_of tk (ma_cons (m_var (i := 0)) (ma_cons (m_lc (own := [("k", 12)]) rfl sc.nd (mi_range1 T.n_range (ma_cons (m_bif call_len sim_len T.n_len (ma_cons (m_var (i := 6)) ma_nil)) ma_nil)) (blkOk_by (by kernel_rfl)) (fun _ _ _ _ _ => mg_name (i := 12) sc.nd) (fun _ _ _ _ _ => mts_one (mt_cmp op_gtM sim_gt (m_ixA hu hC (m_var (i := 6)) (m_var (i := 12))) (m_int))) (fun _ _ _ _ _ => m_var (i := 12))) ma_nil)))) (
ms_one (m_ret (m_tup (ma_cons (m_ixA hu hC (m_lst (ma_cons (m_str) (ma_cons (m_str) ma_nil))) (m_op op_sub sim_int2 (m_var (i := 8)) (m_int))) (ma_cons (m_var (i := 11)) (ma_cons (m_call (cl.call 13 _ rfl) T.g__law_draw tk (ma_cons (m_var (i := 0)) (ma_cons (m_ixA hu hC (m_var (i := 6)) (m_var (i := 11))) ma_nil))) ma_nil))))))) (
ms_nil)) (
ms_cons (m_if (PW.pt (mw_and (mt_cmp (op_eqM hu) sim_eq (m_var (i := 8)) (m_int)) (mw_and1 (mt_cmp op_gtM sim_gt (m_var (i := 7)) (m_int))))) (
ms_one (m_ret (m_tup (ma_cons (m_call (cl.call 14 _ rfl) T.g__law_one_of tk (ma_cons (m_var (i := 0)) (ma_cons (m_lst (ma_cons (m_str) (ma_cons (m_str) ma_nil))) ma_nil))) (ma_cons (m_call (cl.call 13 _ rfl) T.g__law_draw tk (ma_cons (m_var (i := 0)) (ma_cons (m_var (i := 7)) ma_nil))) ma_nil))))) (
ms_nil)) (
ms_one (m_ret (m_tup (ma_cons (m_call (cl.call 14 _ rfl) T.g__law_one_of tk (ma_cons (m_var (i := 0)) (ma_cons (m_lst (ma_cons (m_str) (ma_cons (m_str) (ma_cons (m_str) (ma_cons (m_str) ma_nil))))) ma_nil))) ma_nil))))))))))))))))
theorem bd21 (T : Txt w cA K mg fa) : BodyOk ⟨K, cA⟩ P w K mg base (ent fa fd) ⟨"_law_is_below", "_law_is_below", st21, N21, P21, fa 21, fd 21⟩ d__law_is_below := fun G cdv A outer s H E cl => by
  have tk : Takes (Ctx P w K mg base ⟨"_law_is_below", "_law_is_below", st21, N21, P21, fa 21, fd 21⟩ cdv A outer s H E) (WB E) := takes_of rfl rfl rfl rfl
  have ps := passes_of (X := Ctx P w K mg base ⟨"_law_is_below", "_law_is_below", st21, N21, P21, fa 21, fd 21⟩ cdv A outer s H E) rfl
  have hu := cl.room.units
  have hu5 := hu_five cl.room
  have hC : (⟨K, cA⟩ : Cfg).K = K := rfl
  have sc := sc21
  show PSs _ _ (tS _ _ (b__law_is_below G))
  delta b__law_is_below
  exact (ms_one (m_ret (m_and (m_call (cl.call 16 _ rfl) T.g__law_is_int tk (ma_cons (m_var (i := 0)) ma_nil)) (m_and (m_cmp op_leM sim_le (m_int) (m_var (i := 0))) (m_one (m_cmp op_ltM sim_lt (m_var (i := 0)) (m_var (i := 1))))))))
theorem bd22 (T : Txt w cA K mg fa) : BodyOk ⟨K, cA⟩ P w K mg base (ent fa fd) ⟨"_law_is_row", "_law_is_row", st22, N22, P22, fa 22, fd 22⟩ d__law_is_row := fun G cdv A outer s H E cl => by
  have tk : Takes (Ctx P w K mg base ⟨"_law_is_row", "_law_is_row", st22, N22, P22, fa 22, fd 22⟩ cdv A outer s H E) (WB E) := takes_of rfl rfl rfl rfl
  have ps := passes_of (X := Ctx P w K mg base ⟨"_law_is_row", "_law_is_row", st22, N22, P22, fa 22, fd 22⟩ cdv A outer s H E) rfl
  have hu := cl.room.units
  have hu5 := hu_five cl.room
  have hC : (⟨K, cA⟩ : Cfg).K = K := rfl
  have sc := sc22
  show PSs _ _ (tS _ _ (b__law_is_row G))
  delta b__law_is_row
  exact (ms_cons (m_asg (vs := [3, 4, 5, 6, 7]) (m_var (i := 2)) (mg_tup rfl hC (mgs_cons (mg_name (i := 3) sc.nd) (mgs_cons (mg_name (i := 4) sc.nd) (mgs_cons (mg_name (i := 5) sc.nd) (mgs_cons (mg_name (i := 6) sc.nd) (mgs_cons (mg_name (i := 7) sc.nd) (mgs_nil)))))))) (
ms_cons (m_if (PW.pt (mw_or (mt_not (mt_val (m_isi (c := "tuple") hC (m_var (i := 0)) T.n_isinstance T.n_tuple) hC)) (mw_or (mt_cmp (op_eqM hu) sim_eq (m_var (i := 0)) (m_tup (ma_nil))) (mw_or1 (mt_not (mt_val (m_isi (c := "str") hC (m_ix hC (m_var (i := 0)) (m_int)) T.n_isinstance T.n_str) hC)))))) (
ms_one (m_ret (m_bl))) (
ms_nil)) (
ms_cons (m_set (i := 8) sc.nd (m_ix hC (m_var (i := 0)) (m_int))) (
ms_cons (m_if (mt_cmp op_inM sim_in (m_var (i := 8)) (m_lst (ma_cons (m_str) (ma_cons (m_str) (ma_cons (m_str) (ma_cons (m_str) ma_nil)))))) (
ms_one (m_ret (m_cmp (op_eqM hu) sim_eq (m_bif call_len sim_len T.n_len (ma_cons (m_var (i := 0)) ma_nil)) (m_int)))) (
ms_nil)) (
ms_cons (m_if (mt_cmp (op_eqM hu) sim_eq (m_var (i := 8)) (m_str)) (
ms_cons (m_if (PW.pt (mw_or (mt_cmp (op_neM hu) sim_ne (m_bif call_len sim_len T.n_len (ma_cons (m_var (i := 0)) ma_nil)) (m_int)) (mw_or (mt_not (mt_val (m_call (cl.call 21 _ rfl) T.g__law_is_below tk (ma_cons (m_ix hC (m_var (i := 0)) (m_int)) (ma_cons (m_var (i := 5)) ma_nil))) hC)) (mw_or1 (mt_not (mt_val (m_isi (c := "tuple") hC (m_ix hC (m_var (i := 0)) (m_int)) T.n_isinstance T.n_tuple) hC)))))) (
ms_one (m_ret (m_bl))) (
ms_nil)) (
ms_cons (m_setLc (i := 9) (own := [("k", 11)]) rfl sc.nd rfl (sw_true rfl rfl rfl (by kernel_rfl)) (mi_range1 T.n_range (ma_cons (m_bif call_len sim_len T.n_len (ma_cons (m_ix hC (m_var (i := 0)) (m_int)) ma_nil)) ma_nil)) (blkOk_by (by kernel_rfl)) (fun _ _ _ _ _ => mg_name (i := 11) sc.nd) (fun _ _ _ _ _ => mts_one (mt_cmp (op_notInTD hu5) sim_inTD (m_ixA hu hC (m_ix hC (m_var (i := 0)) (m_int)) (m_var (i := 11))) (m_slice hC (m_ix hC (m_var (i := 0)) (m_int)) (mo_none) (mo_some (m_var (i := 11)))))) (fun _ _ _ _ _ => m_var (i := 11))) (
ms_one (m_ret (m_and (m_cmp (op_eqM hu) sim_eq (m_bif call_len sim_len T.n_len (ma_cons (m_var (i := 9)) ma_nil)) (m_bif call_len sim_len T.n_len (ma_cons (m_ix hC (m_var (i := 0)) (m_int)) ma_nil))) (m_one (m_gc (m_bif (cr_all rfl) sim_allG T.n_all (ma_cons (m_lc (own := [("x", 12)]) rfl sc.nd (mi_any hC (m_ix hC (m_var (i := 0)) (m_int))) (blkOk_by (by kernel_rfl)) (fun _ _ _ _ _ => mg_name (i := 12) sc.nd) (fun _ _ _ _ _ => mts_nil) (fun _ _ _ _ _ => m_call (cl.call 21 _ rfl) T.g__law_is_below takes0 (ma_cons (m_var (i := 12)) (ma_cons (m_var (i := 4)) ma_nil)))) ma_nil))))))))) (
ms_nil)) (
ms_cons (m_if (mt_cmp op_inM sim_in (m_var (i := 8)) (m_lst (ma_cons (m_str) (ma_cons (m_str) ma_nil)))) (
ms_one (m_ret (m_and (m_cmp (op_eqM hu) sim_eq (m_bif call_len sim_len T.n_len (ma_cons (m_var (i := 0)) ma_nil)) (m_int)) (m_and (m_call (cl.call 21 _ rfl) T.g__law_is_below tk (ma_cons (m_ix hC (m_var (i := 0)) (m_int)) (ma_cons (m_bif call_len sim_len T.n_len (ma_cons (m_var (i := 6)) ma_nil)) ma_nil))) (m_one (m_call (cl.call 21 _ rfl) T.g__law_is_below tk (ma_cons (m_ix hC (m_var (i := 0)) (m_int)) (ma_cons (m_ixA hu hC (m_var (i := 6)) (m_ix hC (m_var (i := 0)) (m_int))) ma_nil)))))))) (
ms_nil)) (
ms_cons (m_if (mt_cmp (op_neM hu) sim_ne (m_bif call_len sim_len T.n_len (ma_cons (m_var (i := 0)) ma_nil)) (m_int)) (
ms_one (m_ret (m_bl))) (
ms_nil)) (
ms_cons (m_if (mt_cmp op_inM sim_in (m_var (i := 8)) (m_lst (ma_cons (m_str) (ma_cons (m_str) ma_nil)))) (
ms_one (m_ret (m_and (m_call (cl.call 16 _ rfl) T.g__law_is_int tk (ma_cons (m_ix hC (m_var (i := 0)) (m_int)) ma_nil)) (m_one (m_cmp op_leM sim_le (m_bif call_abs sim_abs T.n_abs (ma_cons (m_ix hC (m_var (i := 0)) (m_int)) ma_nil)) (m_op op_pow sim_pow (m_int) (m_int))))))) (
ms_nil)) (
ms_cons (m_if (mt_cmp op_inM sim_in (m_var (i := 8)) (m_lst (ma_cons (m_str) (ma_cons (m_str) ma_nil)))) (
ms_one (m_ret (m_and (m_call (cl.call 16 _ rfl) T.g__law_is_int tk (ma_cons (m_ix hC (m_var (i := 0)) (m_int)) ma_nil)) (m_and (m_cmp op_geM sim_ge (m_ix hC (m_var (i := 0)) (m_int)) (m_int)) (m_one (m_cmp op_leM sim_le (m_ix hC (m_var (i := 0)) (m_int)) (m_op op_pow sim_pow (m_int) (m_int)))))))) (
ms_nil)) (
ms_cons (m_set (i := 10) sc.nd (m_dic (ps := [(eC (.str [108, 111, 97, 100]), eVar 3), (eC (.str [115, 116, 111, 114, 101]), eVar 3), (eC (.str [114, 101, 97, 100]), eVar 4), (eC (.str [119, 114, 105, 116, 101]), eVar 4), (eC (.str [108, 101, 110, 103, 116, 104]), eVar 4), (eC (.str [110, 101, 119]), eVar 4)]) (pps_cons (m_str) (m_var (i := 3)) (pps_cons (m_str) (m_var (i := 3)) (pps_cons (m_str) (m_var (i := 4)) (pps_cons (m_str) (m_var (i := 4)) (pps_cons (m_str) (m_var (i := 4)) (pps_cons (m_str) (m_var (i := 4)) (pps_nil))))))))) (
ms_cons (m_ex (m_gc (m_met (ty := .dict) hC PySem.F.plainAttrs_dict PySem.F.slot_dict_update PySem.F.type_dict_update mt_updD sim_updD (m_var (i := 10)) (ma_cons (m_dic (ps := [(eC (.str [106, 117, 109, 112]), eVar 1), (eC (.str [108, 101, 115, 115]), eVar 1), (eC (.str [115, 97, 109, 101]), eVar 1), (eC (.str [103, 114, 97, 98]), eFn fLen (aCons (eVar 6) aNil)), (eC (.str [100, 114, 111, 112]), eFn fLen (aCons (eVar 6) aNil))]) (pps_cons (m_str) (m_var (i := 1)) (pps_cons (m_str) (m_var (i := 1)) (pps_cons (m_str) (m_var (i := 1)) (pps_cons (m_str) (m_bif call_len sim_len T.n_len (ma_cons (m_var (i := 6)) ma_nil)) (pps_cons (m_str) (m_bif call_len sim_len T.n_len (ma_cons (m_var (i := 6)) ma_nil)) (pps_nil))))))) ma_nil)))) (
ms_cons (m_ex (m_gc (m_met (ty := .dict) hC PySem.F.plainAttrs_dict PySem.F.slot_dict_update PySem.F.type_dict_update mt_updD sim_updD (m_var (i := 10)) (ma_cons (m_dic (ps := [(eC (.str [115, 101, 110, 100]), eVar 7), (eC (.str [116, 97, 107, 101]), eVar 7)]) (pps_cons (m_str) (m_var (i := 7)) (pps_cons (m_str) (m_var (i := 7)) (pps_nil)))) ma_nil)))) (
ms_one (m_ret (m_and (m_inA hu hC (m_var (i := 8)) (m_var (i := 10))) (m_one (m_call (cl.call 21 _ rfl) T.g__law_is_below tk (ma_cons (m_ix hC (m_var (i := 0)) (m_int)) (ma_cons (m_ixA hu hC (m_var (i := 10)) (m_var (i := 8))) ma_nil)))))))))))))))))))
theorem bd23 (T : Txt w cA K mg fa) : BodyOk ⟨K, cA⟩ P w K mg base (ent fa fd) ⟨"_law_is_right", "_law_is_right", st23, N23, P23, fa 23, fd 23⟩ d__law_is_right := fun G cdv A outer s H E cl => by
  have tk : Takes (Ctx P w K mg base ⟨"_law_is_right", "_law_is_right", st23, N23, P23, fa 23, fd 23⟩ cdv A outer s H E) (WB E) := takes_of rfl rfl rfl rfl
  have ps := passes_of (X := Ctx P w K mg base ⟨"_law_is_right", "_law_is_right", st23, N23, P23, fa 23, fd 23⟩ cdv A outer s H E) rfl
  have hu := cl.room.units
  have hu5 := hu_five cl.room
  have hC : (⟨K, cA⟩ : Cfg).K = K := rfl
  have sc := sc23
  show PSs _ _ (tS _ _ (b__law_is_right G))
  delta b__law_is_right
  exact (ms_cons (m_if (PW.pt (mw_or (mt_not (mt_val (m_isi (c := "tuple") hC (m_var (i := 0)) T.n_isinstance T.n_tuple) hC)) (mw_or (mt_cmp op_ltM sim_lt (m_bif call_len sim_len T.n_len (ma_cons (m_var (i := 0)) ma_nil)) (m_int)) (mw_or1 (mt_cmp op_gtM sim_gt (m_bif call_len sim_len T.n_len (ma_cons (m_var (i := 0)) ma_nil)) (m_int)))))) (
ms_one (m_ret (m_bl))) (
ms_nil)) (
ms_one (m_ret (m_gc (m_bif (cr_all rfl) sim_allG T.n_all (ma_cons (m_lc (own := [("row", 2)]) rfl sc.nd (mi_any hC (m_var (i := 0))) (blkOk_by (by kernel_rfl)) (fun _ _ _ _ _ => mg_name (i := 2) sc.nd) (fun _ _ _ _ _ => mts_nil) (fun _ _ _ _ _ => m_call (cl.call 22 _ rfl) T.g__law_is_row takes0 (ma_cons (m_var (i := 2)) (ma_cons (m_bif call_len sim_len T.n_len (ma_cons (m_var (i := 0)) ma_nil)) (ma_cons (m_var (i := 1)) ma_nil))))) ma_nil))))))
theorem bd24 (T : Txt w cA K mg fa) : BodyOk ⟨K, cA⟩ P w K mg base (ent fa fd) ⟨"_law_row_text", "_law_row_text", st24, N24, P24, fa 24, fd 24⟩ d__law_row_text := fun G cdv A outer s H E cl => by
  have tk : Takes (Ctx P w K mg base ⟨"_law_row_text", "_law_row_text", st24, N24, P24, fa 24, fd 24⟩ cdv A outer s H E) (WB E) := takes_of rfl rfl rfl rfl
  have ps := passes_of (X := Ctx P w K mg base ⟨"_law_row_text", "_law_row_text", st24, N24, P24, fa 24, fd 24⟩ cdv A outer s H E) rfl
  have hu := cl.room.units
  have hu5 := hu_five cl.room
  have hC : (⟨K, cA⟩ : Cfg).K = K := rfl
  have sc := sc24
  show PSs _ _ (tS _ _ (b__law_row_text G))
  delta b__law_row_text
  exact (ms_cons (m_set (i := 1) sc.nd (m_bty (call_listM rfl) sim_listA T.n_list (ma_cons (m_slice hC (m_var (i := 0)) (mo_some (m_int)) (mo_none)) ma_nil))) (
ms_cons (m_if (mt_cmp (op_eqM hu) sim_eq (m_ix hC (m_var (i := 0)) (m_int)) (m_str)) (
ms_one (m_set (i := 1) sc.nd (m_op op_addM sim_add (m_lst (ma_cons (m_ix hC (m_var (i := 0)) (m_int)) ma_nil)) (m_bty (call_listM rfl) sim_listA T.n_list (ma_cons (m_ix hC (m_var (i := 0)) (m_int)) ma_nil))))) (
ms_nil)) (
ms_one (m_ret (m_gc (m_met (ty := .str) hC PySem.F.plainAttrs_str PySem.F.slot_str_join PySem.F.type_str_join mt_join sim_join (m_str) (ma_cons (m_op op_addM sim_add (m_lst (ma_cons (m_ix hC (m_var (i := 0)) (m_int)) ma_nil)) (m_lc (own := [("x", 2)]) rfl sc.nd (mi_any hC (m_var (i := 1))) (blkOk_by (by kernel_rfl)) (fun _ _ _ _ _ => mg_name (i := 2) sc.nd) (fun _ _ _ _ _ => mts_nil) (fun _ _ _ _ _ => m_bty call_str_int sim_str T.n_str (ma_cons (m_var (i := 2)) ma_nil)))) ma_nil)))))))
theorem bd25 (T : Txt w cA K mg fa) : BodyOk ⟨K, cA⟩ P w K mg base (ent fa fd) ⟨"_law_refuses", "_law_refuses", st25, N25, P25, fa 25, fd 25⟩ d__law_refuses := fun G cdv A outer s H E cl => by
  have tk : Takes (Ctx P w K mg base ⟨"_law_refuses", "_law_refuses", st25, N25, P25, fa 25, fd 25⟩ cdv A outer s H E) (WB E) := takes_of rfl rfl rfl rfl
  have ps := passes_of (X := Ctx P w K mg base ⟨"_law_refuses", "_law_refuses", st25, N25, P25, fa 25, fd 25⟩ cdv A outer s H E) rfl
  have hu := cl.room.units
  have hu5 := hu_five cl.room
  have hC : (⟨K, cA⟩ : Cfg).K = K := rfl
  have sc := sc25
  show PSs _ _ (tS _ _ (b__law_refuses G))
  delta b__law_refuses
  exact (ms_cons (m_try tk T.x_BadText T.s_BadText (fun W2 pn2 xe2 tk2 ps2 => 
ms_one (m_ex (m_call (cl.call 11 _ rfl) T.g_read_code tk2 (ma_cons (m_var (i := 0)) ma_nil)))) (fun _ _ _ => 
ms_one (m_ret (m_bl)))) (
ms_one (m_ret (m_bl))))
theorem bd26 (T : Txt w cA K mg fa) : BodyOk ⟨K, cA⟩ P w K mg base (ent fa fd) ⟨"law", "law", st26, N26, P26, fa 26, fd 26⟩ d_law := fun G cdv A outer s H E cl => by
  have tk : Takes (Ctx P w K mg base ⟨"law", "law", st26, N26, P26, fa 26, fd 26⟩ cdv A outer s H E) (WB E) := takes_of rfl rfl rfl rfl
  have ps := passes_of (X := Ctx P w K mg base ⟨"law", "law", st26, N26, P26, fa 26, fd 26⟩ cdv A outer s H E) rfl
  have hu := cl.room.units
  have hu5 := hu_five cl.room
  have hC : (⟨K, cA⟩ : Cfg).K = K := rfl
  have sc := sc26
  show PSs _ _ (tS _ _ (b_law G))
  delta b_law
  exact (ms_cons (m_set (i := 1) sc.nd (m_call (cl.call 12 _ rfl) T.g__law_start tk (ma_cons (m_var (i := 0)) ma_nil))) (
ms_cons (m_for (vs := [2]) ps rfl (mi_range1 T.n_range (ma_cons (m_int) ma_nil)) (mg_name (i := 2) sc.nd) (
ms_cons (m_set (i := 3) sc.nd (m_gc (m_bty call_tuple_of sim_tuple T.n_tuple (ma_cons (m_lc (own := [("k", 16)]) rfl sc.nd (mi_range1 T.n_range (ma_cons (m_call (cl.call 13 _ rfl) T.g__law_draw tk (ma_cons (m_var (i := 1)) (ma_cons (m_int) ma_nil))) ma_nil)) (blkOk_by (by kernel_rfl)) (fun _ _ _ _ _ => mg_name (i := 16) sc.nd) (fun _ _ _ _ _ => mts_nil) (fun _ _ _ _ _ => m_call (cl.call 13 _ rfl) T.g__law_draw takes0 (ma_cons (m_var (i := 1)) (ma_cons (m_int) ma_nil)))) ma_nil)))) (
ms_cons (m_set (i := 4) sc.nd (m_tup (ma_cons (m_call (cl.call 13 _ rfl) T.g__law_draw tk (ma_cons (m_var (i := 1)) (ma_cons (m_int) ma_nil))) (ma_cons (m_call (cl.call 13 _ rfl) T.g__law_draw tk (ma_cons (m_var (i := 1)) (ma_cons (m_int) ma_nil))) (ma_cons (m_call (cl.call 13 _ rfl) T.g__law_draw tk (ma_cons (m_var (i := 1)) (ma_cons (m_int) ma_nil))) (ma_cons (m_var (i := 3)) (ma_cons (m_call (cl.call 13 _ rfl) T.g__law_draw tk (ma_cons (m_var (i := 1)) (ma_cons (m_int) ma_nil))) ma_nil))))))) (
ms_cons (m_set (i := 5) sc.nd (m_op op_addM sim_add (m_int) (m_call (cl.call 13 _ rfl) T.g__law_draw tk (ma_cons (m_var (i := 1)) (ma_cons (m_int) ma_nil))))) (
ms_cons (m_set (i := 6) sc.nd (m_gc (m_bty call_tuple_of sim_tuple T.n_tuple (ma_cons (m_lc (own := [("k", 16)]) rfl sc.nd (mi_range1 T.n_range (ma_cons (m_var (i := 5)) ma_nil)) (blkOk_by (by kernel_rfl)) (fun _ _ _ _ _ => mg_name (i := 16) sc.nd) (fun _ _ _ _ _ => mts_nil) (fun _ _ _ _ _ => m_call (cl.call 20 _ rfl) T.g__law_some_row takes0 (ma_cons (m_var (i := 1)) (ma_cons (m_var (i := 5)) (ma_cons (m_var (i := 4)) ma_nil))))) ma_nil)))) (
ms_cons (m_set (i := 7) sc.nd (m_gc (m_met (ty := .str) hC PySem.F.plainAttrs_str PySem.F.slot_str_join PySem.F.type_str_join mt_join sim_join (m_str) (ma_cons (m_lc (own := [("row", 12)]) rfl sc.nd (mi_any hC (m_var (i := 6))) (blkOk_by (by kernel_rfl)) (fun _ _ _ _ _ => mg_name (i := 12) sc.nd) (fun _ _ _ _ _ => mts_nil) (fun _ _ _ _ _ => m_op op_addM sim_add (m_call (cl.call 24 _ rfl) T.g__law_row_text takes0 (ma_cons (m_var (i := 12)) ma_nil)) (m_str))) ma_nil)))) (
ms_cons (m_if (PW.pt (mw_or (mt_not (mt_val (m_call (cl.call 17 _ rfl) T.g__law_same tk (ma_cons (m_call (cl.call 9 _ rfl) T.g_write_code tk (ma_cons (m_var (i := 6)) ma_nil)) (ma_cons (m_var (i := 7)) ma_nil))) hC)) (mw_or1 (mt_not (mt_val (m_call (cl.call 17 _ rfl) T.g__law_same tk (ma_cons (m_call (cl.call 11 _ rfl) T.g_read_code tk (ma_cons (m_var (i := 7)) ma_nil)) (ma_cons (m_var (i := 6)) ma_nil))) hC))))) (
ms_one (m_ret (m_bl))) (
ms_nil)) (
ms_cons (m_set (i := 8) sc.nd (m_lst (ma_cons (m_var (i := 6)) (ma_cons (m_slice hC (m_var (i := 6)) (mo_none) (mo_some (m_un un_neg sim_neg (m_int)))) (ma_cons (m_op op_addM sim_add (m_var (i := 6)) (m_slice hC (m_var (i := 6)) (mo_none) (mo_some (m_int)))) (ma_cons (m_revA hC (m_var (i := 6))) (ma_cons (m_tup (ma_nil)) ma_nil))))))) (
ms_cons (m_set (i := 8) sc.nd (m_op op_addM sim_add (m_var (i := 8)) (m_lst (ma_cons (m_int) (ma_cons (m_str) (ma_cons (m_ix hC (m_var (i := 6)) (m_int)) (ma_cons (m_tup (ma_cons (m_tup (ma_cons (m_str) (ma_cons (m_op op_addM sim_add (m_op op_pow sim_pow (m_int) (m_int)) (m_int)) ma_nil))) ma_nil)) (ma_cons (m_tup (ma_cons (m_tup (ma_cons (m_str) (ma_cons (m_int) ma_nil))) ma_nil)) ma_nil)))))))) (
ms_cons (m_set (i := 8) sc.nd (m_op op_addM sim_add (m_var (i := 8)) (m_lst (ma_cons (m_tup (ma_cons (m_tup (ma_cons (m_str) (ma_cons (m_int) (ma_cons (m_tup (ma_cons (m_int) (ma_cons (m_int) ma_nil))) ma_nil)))) ma_nil)) (ma_cons (m_tup (ma_cons (m_tup (ma_cons (m_str) (ma_cons (m_int) ma_nil))) ma_nil)) (ma_cons (m_tup (ma_cons (m_tup (ma_cons (m_str) (ma_cons (m_int) ma_nil))) ma_nil)) (ma_cons (m_tup (ma_cons (m_tup (ma_cons (m_str) (ma_cons (m_int) ma_nil))) ma_nil)) ma_nil))))))) (
ms_cons (m_set (i := 8) sc.nd (m_op op_addM sim_add (m_var (i := 8)) (m_lst (ma_cons (m_tup (ma_cons (m_tup (ma_cons (m_str) (ma_cons (m_int) ma_nil))) ma_nil)) (ma_cons (m_tup (ma_cons (m_tup (ma_cons (m_str) ma_nil)) ma_nil)) (ma_cons (m_tup (ma_cons (m_tup (ma_nil)) ma_nil)) ma_nil)))))) (
ms_cons (m_set (i := 8) sc.nd (m_op op_addM sim_add (m_var (i := 8)) (m_lst (ma_cons (m_tup (ma_cons (m_tup (ma_cons (m_str) (ma_cons (m_int) ma_nil))) ma_nil)) (ma_cons (m_tup (ma_cons (m_tup (ma_cons (m_str) (ma_cons (m_int) (ma_cons (m_int) ma_nil)))) ma_nil)) (ma_cons (m_tup (ma_cons (m_tup (ma_cons (m_str) (ma_cons (m_int) (ma_cons (m_int) ma_nil)))) ma_nil)) ma_nil)))))) (
ms_cons (m_set (i := 8) sc.nd (m_op op_addM sim_add (m_var (i := 8)) (m_lst (ma_cons (m_tup (ma_cons (m_tup (ma_cons (m_str) (ma_cons (m_int) ma_nil))) ma_nil)) (ma_cons (m_tup (ma_cons (m_tup (ma_cons (m_str) (ma_cons (m_int) ma_nil))) ma_nil)) (ma_cons (m_tup (ma_cons (m_tup (ma_cons (m_str) (ma_cons (m_int) (ma_cons (m_int) ma_nil)))) ma_nil)) ma_nil)))))) (
ms_cons (m_set (i := 8) sc.nd (m_op op_addM sim_add (m_var (i := 8)) (m_lst (ma_cons (m_op op_addM sim_add (m_var (i := 6)) (m_tup (ma_cons (m_tup (ma_cons (m_str) (ma_cons (m_int) ma_nil))) ma_nil))) (ma_cons (m_op op_addM sim_add (m_var (i := 6)) (m_tup (ma_cons (m_str) ma_nil))) (ma_cons (m_op op_addM sim_add (m_var (i := 6)) (m_tup (ma_cons (m_tup (ma_cons (m_str) (ma_cons (m_str) ma_nil))) ma_nil))) ma_nil)))))) (
ms_cons (m_set (i := 8) sc.nd (m_op op_addM sim_add (m_var (i := 8)) (m_lst (ma_cons (m_tup (ma_cons (m_tup (ma_cons (m_str) (ma_cons (m_int) (ma_cons (m_un un_neg sim_neg (m_int)) ma_nil)))) ma_nil)) (ma_cons (m_tup (ma_cons (m_tup (ma_cons (m_str) (ma_cons (m_op op_addM sim_add (m_op op_pow sim_pow (m_int) (m_int)) (m_int)) ma_nil))) ma_nil)) ma_nil))))) (
ms_cons (m_set (i := 8) sc.nd (m_op op_addM sim_add (m_var (i := 8)) (m_lc (own := [("k", 16)]) rfl sc.nd (mi_range1 T.n_range (ma_cons (m_int) ma_nil)) (blkOk_by (by kernel_rfl)) (fun _ _ _ _ _ => mg_name (i := 16) sc.nd) (fun _ _ _ _ _ => mts_nil) (fun _ _ _ _ _ => m_call (cl.call 19 _ rfl) T.g__law_bent takes0 (ma_cons (m_var (i := 1)) (ma_cons (m_var (i := 6)) (ma_cons (m_int) ma_nil))))))) (
ms_one (m_for (vs := [9]) ps rfl (mi_any hC (m_var (i := 8))) (mg_name (i := 9) sc.nd) (
ms_one (m_for (vs := [10]) ps rfl (mi_any hC (m_lst (ma_cons (m_var (i := 4)) (ma_cons (m_op op_addM sim_add (m_slice hC (m_var (i := 4)) (mo_none) (mo_some (m_int))) (m_tup (ma_cons (m_op op_addM sim_add (m_tup (ma_cons (m_int) ma_nil)) (m_var (i := 3))) (ma_cons (m_int) ma_nil)))) (ma_cons (m_op op_addM sim_add (m_tup (ma_cons (m_ix hC (m_var (i := 4)) (m_int)) (ma_cons (m_bif (call_max2 rfl) sim_max2 T.n_max (ma_cons (m_int) (ma_cons (m_op op_sub sim_int2 (m_ix hC (m_var (i := 4)) (m_int)) (m_int)) ma_nil))) ma_nil))) (m_slice hC (m_var (i := 4)) (mo_some (m_int)) (mo_none))) ma_nil))))) (mg_name (i := 10) sc.nd) (
ms_cons (m_set (i := 11) sc.nd (m_call (cl.call 5 _ rfl) T.g_is_code tk (ma_cons (m_var (i := 9)) (ma_cons (m_ix hC (m_var (i := 10)) (m_int)) (ma_cons (m_ix hC (m_var (i := 10)) (m_int)) (ma_cons (m_ix hC (m_var (i := 10)) (m_int)) (ma_cons (m_ix hC (m_var (i := 10)) (m_int)) (ma_cons (m_ix hC (m_var (i := 10)) (m_int)) ma_nil)))))))) (
ms_one (m_if (mt_not (mt_val (m_call (cl.call 18 _ rfl) T.g__law_says tk (ma_cons (m_var (i := 11)) (ma_cons (m_call (cl.call 23 _ rfl) T.g__law_is_right tk (ma_cons (m_var (i := 9)) (ma_cons (m_var (i := 10)) ma_nil))) ma_nil))) hC)) (
ms_one (m_ret (m_bl))) (
ms_nil)))))))))))))))))))))))) (
ms_cons (m_set (i := 12) sc.nd (m_tup (ma_cons (m_tup (ma_cons (m_str) ma_nil)) ma_nil))) (
ms_cons (m_if (PW.pt (mw_or (mt_cmp op_isNotM sim_isG (m_call (cl.call 5 _ rfl) T.g_is_code tk (ma_cons (m_op op_mulA sim_mulA (m_var (i := 12)) (m_int)) (ma_cons (m_int) (ma_cons (m_int) (ma_cons (m_int) (ma_cons (m_tup (ma_nil)) (ma_cons (m_int) ma_nil))))))) (m_bl)) (mw_or1 (mt_cmp op_isNotM sim_isG (m_call (cl.call 5 _ rfl) T.g_is_code tk (ma_cons (m_op op_mulA sim_mulA (m_var (i := 12)) (m_int)) (ma_cons (m_int) (ma_cons (m_int) (ma_cons (m_int) (ma_cons (m_tup (ma_nil)) (ma_cons (m_int) ma_nil))))))) (m_bl))))) (
ms_one (m_ret (m_bl))) (
ms_nil)) (
ms_cons (m_set (i := 13) sc.nd (m_op op_addM sim_add (m_op op_addM sim_add (m_str) (m_op op_mulA sim_mulA (m_str) (m_int))) (m_str))) (
ms_cons (m_set (i := 14) sc.nd (m_tup (ma_cons (m_tup (ma_cons (m_str) (ma_cons (m_un un_neg sim_neg (m_int)) ma_nil))) (ma_cons (m_tup (ma_cons (m_str) (ma_cons (m_bty call_intOf sim_intOf T.n_int (ma_cons (m_op op_mulA sim_mulA (m_str) (m_int)) ma_nil)) ma_nil))) (ma_cons (m_tup (ma_cons (m_str) (ma_cons (m_int) (ma_cons (m_tup (ma_cons (m_int) (ma_cons (m_int) ma_nil))) ma_nil)))) (ma_cons (m_tup (ma_cons (m_str) (ma_cons (m_int) (ma_cons (m_un un_neg sim_neg (m_int)) ma_nil)))) (ma_cons (m_tup (ma_cons (m_str) (ma_cons (m_int) ma_nil))) ma_nil))))))) (
ms_cons (m_if (mt_not (mt_val (m_call (cl.call 17 _ rfl) T.g__law_same tk (ma_cons (m_call (cl.call 11 _ rfl) T.g_read_code tk (ma_cons (m_var (i := 13)) ma_nil)) (ma_cons (m_var (i := 14)) ma_nil))) hC)) (
ms_one (m_ret (m_bl))) (
ms_nil)) (
ms_cons (m_set (i := 15) sc.nd (m_lst (ma_cons (m_str) (ma_cons (m_str) (ma_cons (m_str) (ma_cons (m_str) (ma_cons (m_str) ma_nil))))))) (
ms_cons (m_set (i := 15) sc.nd (m_op op_addM sim_add (m_var (i := 15)) (m_lst (ma_cons (m_str) (ma_cons (m_str) (ma_cons (m_str) (ma_cons (m_str) (ma_cons (m_str) ma_nil)))))))) (
ms_cons (m_set (i := 15) sc.nd (m_op op_addM sim_add (m_var (i := 15)) (m_lst (ma_cons (m_str) (ma_cons (m_str) (ma_cons (m_str) (ma_cons (m_str) (ma_cons (m_str) (ma_cons (m_str) (ma_cons (m_str) (ma_cons (m_str) (ma_cons (m_str) ma_nil)))))))))))) (
ms_cons (m_set (i := 15) sc.nd (m_op op_addM sim_add (m_var (i := 15)) (m_lst (ma_cons (m_str) (ma_cons (m_str) (ma_cons (m_str) (ma_cons (m_str) (ma_cons (m_str) (ma_cons (m_str) (ma_cons (m_str) ma_nil)))))))))) (
ms_one (m_ret (m_gc (m_bif (cr_all rfl) sim_allG T.n_all (ma_cons (m_lc (own := [("one", 17)]) rfl sc.nd (mi_any hC (m_var (i := 15))) (blkOk_by (by kernel_rfl)) (fun _ _ _ _ _ => mg_name (i := 17) sc.nd) (fun _ _ _ _ _ => mts_nil) (fun _ _ _ _ _ => m_call (cl.call 25 _ rfl) T.g__law_refuses takes0 (ma_cons (m_var (i := 17)) ma_nil))) ma_nil))))))))))))))))
theorem bd27 (T : Txt w cA K mg fa) : BodyOk ⟨K, cA⟩ P w K mg base (ent fa fd) ⟨"__init__", "Sizes.__init__", st27, N27, P27, fa 27, fd 27⟩ d_Sizes___init__ := fun G cdv A outer s H E cl => by
  have tk : Takes (Ctx P w K mg base ⟨"__init__", "Sizes.__init__", st27, N27, P27, fa 27, fd 27⟩ cdv A outer s H E) (WB E) := takes_of rfl rfl rfl rfl
  have ps := passes_of (X := Ctx P w K mg base ⟨"__init__", "Sizes.__init__", st27, N27, P27, fa 27, fd 27⟩ cdv A outer s H E) rfl
  have hu := cl.room.units
  have hu5 := hu_five cl.room
  have hC : (⟨K, cA⟩ : Cfg).K = K := rfl
  have sc := sc27
  show PSs _ _ (tS _ _ (b_Sizes___init__ G))
  delta b_Sizes___init__
  exact (ms_cons (m_fldSet (c := 0) (f := [98, 111, 117, 110, 100, 115]) rfl T.cl_Sizes T.na_Sizes_bounds (m_var (i := 0)) (m_dic (ps := [(eC (.str [106, 117, 109, 112]), eVar 1), (eC (.str [108, 101, 115, 115]), eVar 1), (eC (.str [115, 97, 109, 101]), eVar 1), (eC (.str [108, 111, 97, 100]), eVar 2), (eC (.str [115, 116, 111, 114, 101]), eVar 2)]) (pps_cons (m_str) (m_var (i := 1)) (pps_cons (m_str) (m_var (i := 1)) (pps_cons (m_str) (m_var (i := 1)) (pps_cons (m_str) (m_var (i := 2)) (pps_cons (m_str) (m_var (i := 2)) (pps_nil)))))))) (
ms_cons (m_ex (m_gc (m_met (ty := .dict) hC PySem.F.plainAttrs_dict PySem.F.slot_dict_update PySem.F.type_dict_update mt_updD sim_updD (m_fld (c := 0) (f := [98, 111, 117, 110, 100, 115]) rfl T.cl_Sizes T.na_Sizes_bounds (m_var (i := 0))) (ma_cons (m_dic (ps := [(eC (.str [115, 101, 110, 100]), eVar 6), (eC (.str [116, 97, 107, 101]), eVar 6), (eC (.str [103, 114, 97, 98]), eFn fLen (aCons (eVar 5) aNil)), (eC (.str [100, 114, 111, 112]), eFn fLen (aCons (eVar 5) aNil))]) (pps_cons (m_str) (m_var (i := 6)) (pps_cons (m_str) (m_var (i := 6)) (pps_cons (m_str) (m_bif call_len sim_len T.n_len (ma_cons (m_var (i := 5)) ma_nil)) (pps_cons (m_str) (m_bif call_len sim_len T.n_len (ma_cons (m_var (i := 5)) ma_nil)) (pps_nil)))))) ma_nil)))) (
ms_cons (m_fldSet (c := 0) (f := [115, 108, 111, 116, 115]) rfl T.cl_Sizes T.na_Sizes_slots (m_var (i := 0)) (m_var (i := 3))) (
ms_cons (m_fldSet (c := 0) (f := [102, 117, 110, 99, 116, 105, 111, 110, 115]) rfl T.cl_Sizes T.na_Sizes_functions (m_var (i := 0)) (m_var (i := 4))) (
ms_one (m_fldSet (c := 0) (f := [108, 111, 99, 107, 115]) rfl T.cl_Sizes T.na_Sizes_locks (m_var (i := 0)) (m_var (i := 5))))))))
theorem bd28 (T : Txt w cA K mg fa) : BodyOk ⟨K, cA⟩ P w K mg base (ent fa fd) ⟨"fits", "Sizes.fits", st28, N28, P28, fa 28, fd 28⟩ d_Sizes_fits := fun G cdv A outer s H E cl => by
  have tk : Takes (Ctx P w K mg base ⟨"fits", "Sizes.fits", st28, N28, P28, fa 28, fd 28⟩ cdv A outer s H E) (WB E) := takes_of rfl rfl rfl rfl
  have ps := passes_of (X := Ctx P w K mg base ⟨"fits", "Sizes.fits", st28, N28, P28, fa 28, fd 28⟩ cdv A outer s H E) rfl
  have hu := cl.room.units
  have hu5 := hu_five cl.room
  have hC : (⟨K, cA⟩ : Cfg).K = K := rfl
  have sc := sc28
  show PSs _ _ (tS _ _ (b_Sizes_fits G))
  delta b_Sizes_fits
  exact (ms_cons (m_set (i := 2) sc.nd (m_ix hC (m_var (i := 1)) (m_int))) (
ms_cons (m_if (mt_cmp (op_eqM hu) sim_eq (m_var (i := 2)) (m_str)) (
ms_one (m_ret (m_and (m_call (cl.call 2 _ rfl) T.g_is_small tk (ma_cons (m_ix hC (m_var (i := 1)) (m_int)) ma_nil)) (m_and (m_cmp op_ltM sim_lt (m_ix hC (m_var (i := 1)) (m_int)) (m_fld (c := 0) (f := [102, 117, 110, 99, 116, 105, 111, 110, 115]) rfl T.cl_Sizes T.na_Sizes_functions (m_var (i := 0)))) (m_one (m_call (cl.call 3 _ rfl) T.g_are_slots tk (ma_cons (m_ix hC (m_var (i := 1)) (m_int)) (ma_cons (m_fld (c := 0) (f := [115, 108, 111, 116, 115]) rfl T.cl_Sizes T.na_Sizes_slots (m_var (i := 0))) ma_nil)))))))) (
ms_nil)) (
ms_cons (m_if (mt_cmp op_inM sim_in (m_var (i := 2)) (m_tup (ma_cons (m_str) (ma_cons (m_str) ma_nil)))) (
ms_one (m_ret (m_and (m_call (cl.call 0 _ rfl) T.g_is_integer tk (ma_cons (m_ix hC (m_var (i := 1)) (m_int)) ma_nil)) (m_one (m_cmp op_leM sim_le (m_bif call_abs sim_abs T.n_abs (ma_cons (m_ix hC (m_var (i := 1)) (m_int)) ma_nil)) (m_globE T.c_MOST_NUMBER)))))) (
ms_nil)) (
ms_cons (m_if (mt_cmp op_inM sim_in (m_var (i := 2)) (m_tup (ma_cons (m_str) (ma_cons (m_str) ma_nil)))) (
ms_one (m_ret (m_and (m_call (cl.call 2 _ rfl) T.g_is_small tk (ma_cons (m_ix hC (m_var (i := 1)) (m_int)) ma_nil)) (m_one (m_cmp op_geM sim_ge (m_ix hC (m_var (i := 1)) (m_int)) (m_int)))))) (
ms_nil)) (
ms_cons (m_if (mt_cmp op_inM sim_in (m_var (i := 2)) (m_tup (ma_cons (m_str) (ma_cons (m_str) ma_nil)))) (
ms_one (m_ret (m_and (m_call (cl.call 2 _ rfl) T.g_is_small tk (ma_cons (m_ix hC (m_var (i := 1)) (m_int)) ma_nil)) (m_and (m_cmp op_ltM sim_lt (m_ix hC (m_var (i := 1)) (m_int)) (m_bif call_len sim_len T.n_len (ma_cons (m_fld (c := 0) (f := [108, 111, 99, 107, 115]) rfl T.cl_Sizes T.na_Sizes_locks (m_var (i := 0))) ma_nil))) (m_and (m_call (cl.call 2 _ rfl) T.g_is_small tk (ma_cons (m_ix hC (m_var (i := 1)) (m_int)) ma_nil)) (m_one (m_cmp op_ltM sim_lt (m_ix hC (m_var (i := 1)) (m_int)) (m_ixA hu hC (m_fld (c := 0) (f := [108, 111, 99, 107, 115]) rfl T.cl_Sizes T.na_Sizes_locks (m_var (i := 0))) (m_ix hC (m_var (i := 1)) (m_int)))))))))) (
ms_nil)) (
ms_cons (m_if (mt_inA hu hC (m_var (i := 2)) (m_fld (c := 0) (f := [98, 111, 117, 110, 100, 115]) rfl T.cl_Sizes T.na_Sizes_bounds (m_var (i := 0)))) (
ms_one (m_ret (m_and (m_call (cl.call 2 _ rfl) T.g_is_small tk (ma_cons (m_ix hC (m_var (i := 1)) (m_int)) ma_nil)) (m_one (m_cmp op_ltM sim_lt (m_ix hC (m_var (i := 1)) (m_int)) (m_ixA hu hC (m_fld (c := 0) (f := [98, 111, 117, 110, 100, 115]) rfl T.cl_Sizes T.na_Sizes_bounds (m_var (i := 0))) (m_var (i := 2)))))))) (
ms_nil)) (
ms_one (m_ret (m_or (m_cmp (op_eqM hu) sim_eq (m_bif call_len sim_len T.n_len (ma_cons (m_var (i := 1)) ma_nil)) (m_int)) (m_one (m_and (m_call (cl.call 2 _ rfl) T.g_is_small tk (ma_cons (m_ix hC (m_var (i := 1)) (m_int)) ma_nil)) (m_one (m_cmp op_ltM sim_lt (m_ix hC (m_var (i := 1)) (m_int)) (m_fld (c := 0) (f := [115, 108, 111, 116, 115]) rfl T.cl_Sizes T.na_Sizes_slots (m_var (i := 0))))))))))))))))
end
end K09
set_option maxRecDepth 100000
namespace K09
open Mi
/-! ### draws -/
/-- the state of the draws, the script's numbers at b -/
def sto (b : Nat) (s : Int × Int × Int) : MO := .lst [.ref b, .int s.1, .int s.2.1, .int s.2.2]
/-- the state stands at a, the script's numbers at b -/
structure Sta (M : Hm) (a b : Nat) (ns : List Int) : Prop where
  ne : a ≠ b
  st : ∃ s, M[a]? = some (sto b s)
  sc : M[b]? = some (.lst (ns.map MV.int))
theorem Sta.la {M : Hm} {a b : Nat} {ns : List Int} (s : Sta M a b ns) : a < M.length := by
  obtain ⟨_, ⟨u, h⟩, _⟩ := s
  exact (List.getElem?_eq_some_iff.mp h).1
theorem Sta.lb {M : Hm} {a b : Nat} {ns : List Int} (s : Sta M a b ns) : b < M.length := (List.getElem?_eq_some_iff.mp s.sc).1
theorem Sta.set {M : Hm} {a b : Nat} {ns : List Int} (s : Sta M a b ns) (u : Int × Int × Int) : Sta (M.set a (sto b u)) a b ns := by
  have hl := s.la
  refine ⟨s.ne, ⟨u, ?_⟩, ?_⟩
  · rw [List.getElem?_set_self hl]
  · rw [List.getElem?_set_ne s.ne]
    exact s.sc
theorem Sta.app {M G : Hm} {a b : Nat} {ns : List Int} (s : Sta M a b ns) : Sta (M ++ G) a b ns := by
  obtain ⟨ne, ⟨u, h⟩, h2⟩ := s
  exact ⟨ne, ⟨u, get_old h⟩, get_old h2⟩
theorem Sta.rf {M : Hm} {a b : Nat} {ns : List Int} (s : Sta M a b ns) (u : Int × Int × Int) : rfsO M.length (sto b u) = true := by
  unfold sto
  simp [s.lb]
theorem set_sto {M G : Hm} {a b : Nat} {ns : List Int} (s : Sta M a b ns) {o : MO} : (M ++ G).set a o = M.set a o ++ G := List.set_append_left _ _ s.la
theorem start_ok {n : Nat} {ns : List Int} {M : Hm} {Q : MV → Hm → Prop} {E : MX → Hm → Prop}
    (h : ∀ M' a b, Sta M' a b ns → Q (.ref a) M') : wp (run tab (n + 1) f__law_start [.rol (ns.map MV.int)] M) Q E := by
  refine w_run rfl rfl ?_
  simp [d__law_start, b__law_start]
  have e : gcQ M (M ++ [MO.lst (List.map MV.int ns), MO.lst [MV.ref M.length, MV.int 0, MV.int 0, MV.int 0]]) (MV.ref (M.length + 1)) Q = Q (MV.ref (M.length + 1)) (M ++ [MO.lst (List.map MV.int ns), MO.lst [MV.ref M.length, MV.int 0, MV.int 0, MV.int 0]]) := by
    unfold gcQ gcV
    rw [if_pos (okH_app _ _ _), if_neg (by simp)]
    simp
  rw [e]
  refine h _ _ M.length ⟨by omega, ⟨(0, 0, 0), ?_⟩, ?_⟩
  · rw [get_app]
    rfl
  · rw [get_app0]
    rfl
theorem draw_ok {n a b : Nat} {ns : List Int} {most : Int} {M : Hm} {Q : MV → Hm → Prop} {E : MX → Hm → Prop} (s : Sta M a b ns) (h0 : 0 < most) (hl : most.natAbs.log2 < 9000)
    (h : ∀ k u, 0 ≤ k → k < most → Q (.int k) (M.set a (sto b u))) : wp (run tab (n + 1) f__law_draw [.ref a, .int most] M) Q E := by
  obtain ⟨hne, ⟨⟨p, q, r⟩, hs⟩, hb⟩ := s
  unfold sto at hs
  have fin : ∀ (k p q r : Int), Q (.int (k % most)) (M.set a (.lst [.ref b, .int p, .int q, .int r])) := fun k p q r =>
    h _ (p, q, r) (Int.emod_nonneg _ (by omega)) (Int.emod_lt_of_pos _ h0)
  have c3 : ∀ i, cDiv i most = true := fun i => by simp [cDiv, h0, hl]
  have c4 := cDiv_of (j := 97) (by decide)
  have c5 := cDiv_of (j := 11) (by decide)
  have c6 : cPow 10 18 = true := by decide
  have hbA : ∀ (o : MO) (F : List MV → Prop) (F2 : List (MV × MV) → Prop), rdLD (M.set a o) b F F2 = F (ns.map MV.int) := fun o F F2 => rdLD_l (by rw [List.getElem?_set_ne hne]; exact hb) F F2
  refine w_run rfl rfl ?_
  simp [d__law_draw, b__law_draw, rdL_of hs, rdL_set hs, rdL_ne hne, rdL_of hb, hbA, c3, h0]
  refine ifB_p (fun _ => fin _ _ _ _) fun _ => ?_
  refine ifB_p (fun hn => ?_) fun _ => ?_
  · obtain ⟨c, hc⟩ := ix_mod (p := p) hn
    refine ⟨hn, ?_⟩
    simp [rdI_of hc, rdL_of hs, rdL_set hs, c3, c4, c5, c6, cMul_r, fin, h0, ifB_eq]
  · simp [rdL_of hs, rdL_set hs, c3, c4, c5, c6, cMul_r, fin, h0]
theorem log2_lt64 {k : Nat} (h : k < 18446744073709551616) : ((k : Nat) : Int).natAbs.log2 < 9000 := by
  rw [Int.natAbs_natCast]
  have := log2_few (k := 64) h (by decide)
  omega
theorem one_of_ok {n a b : Nat} {ns : List Int} {l : List MV} {o : MV} {M : Hm} {Q : MV → Hm → Prop} {E : MX → Hm → Prop} (s : Sta M a b ns) (ho : o = .tup l ∨ ∃ k, o = .ref k ∧ M[k]? = some (.lst l) ∧ k ≠ a) (h0 : 0 < l.length) (hl : l.length < 18446744073709551616)
    (h : ∀ d u, d ∈ l → Q d (M.set a (sto b u))) : wp (run tab (n + 2) f__law_one_of [.ref a, o] M) Q E := by
  have fin : ∀ (i : Nat) (u : Int × Int × Int), i < l.length → rdO l[i]? (fun d => Q d (M.set a (sto b u))) := fun i u hi => by
    rw [List.getElem?_eq_getElem hi]
    exact h _ u (List.getElem_mem hi)
  rcases ho with rfl | ⟨k, rfl, hk, hne⟩
  · refine w_run rfl rfl ?_
    simp [d__law_one_of, b__law_one_of]
    refine draw_ok s (by omega) (log2_lt64 hl) fun i u h1 h2 => ?_
    obtain ⟨j, rfl⟩ : ∃ j : Nat, i = j := ⟨_, (Int.toNat_of_nonneg h1).symm⟩
    simp [rdI_nat]
    exact fin j u (by omega)
  · refine w_run rfl rfl ?_
    simp [d__law_one_of, b__law_one_of, rdL_of hk]
    refine draw_ok s (by omega) (log2_lt64 hl) fun i u h1 h2 => ?_
    obtain ⟨j, rfl⟩ : ∃ j : Nat, i = j := ⟨_, (Int.toNat_of_nonneg h1).symm⟩
    have hk2 : (M.set a (sto b u))[k]? = some (.lst l) := by rw [List.getElem?_set_ne (Ne.symm hne)]; exact hk
    simp [rdLD_l hk2, rdI_nat]
    exact fin j u (by omega)
end K09
set_option maxRecDepth 100000
namespace K09
open Mi TL
/-! ### draws by chance, data bent -/
theorem log_few {k : Int} (h0 : 0 ≤ k) (h : k < 100000) : k.natAbs.log2 < 9000 := by
  have := log2_few (n := k.natAbs) (k := 64) (by omega) (by decide)
  omega
theorem set_ap {M G : Hm} {a : Nat} {o : MO} (h : a < M.length) : (M ++ G).set a o = M.set a o ++ G := List.set_append_left _ _ h
theorem set_n {M G : Hm} {a b : Nat} {ns : List Int} {u v : Int × Int × Int} (s : Sta M a b ns) : (M.set a (sto b u) ++ G).set a (sto b v) = M.set a (sto b v) ++ G := by simp [set_ap, s.la]
theorem draw_n {n a b : Nat} {ns : List Int} {most : Int} {u : Int × Int × Int} {M G : Hm} {Q : MV → Hm → Prop} {E : MX → Hm → Prop} (s : Sta M a b ns) (h0 : 0 < most) (hl : most.natAbs.log2 < 9000)
    (h : ∀ k v, 0 ≤ k → k < most → Q (.int k) (M.set a (sto b v) ++ G)) : wp (run tab (n + 1) f__law_draw [.ref a, .int most] (M.set a (sto b u) ++ G)) Q E :=
  draw_ok (s.set u).app h0 hl fun k v h1 h2 => by rw [set_n s]; exact h k v h1 h2
theorem Sta.self {M : Hm} {a b : Nat} {ns : List Int} (s : Sta M a b ns) : ∃ u, M.set a (sto b u) = M := by
  obtain ⟨_, ⟨u, hu⟩, _⟩ := s
  refine ⟨u, ?_⟩
  obtain ⟨hl, he⟩ := List.getElem?_eq_some_iff.mp hu
  rw [← he, List.set_getElem_self]
theorem cut_len {α : Type} (l : List α) (lo hi : Option Int) : (cut l lo hi).length ≤ l.length := by
  unfold cut
  rw [List.length_take, List.length_drop]
  omega
theorem cut_mem {α : Type} {l : List α} {lo hi : Option Int} {c : α} (h : c ∈ cut l lo hi) : c ∈ l := by
  unfold cut at h
  exact List.mem_of_mem_drop (List.mem_of_mem_take h)
theorem numT_small {i : Int} (h : i.natAbs < 10 ^ 18) : (numT i).length ≤ 19 ∧ ∀ c ∈ numT i, c < 1114112 := by
  have h1 := TL.numL_len (k := 18) (by decide) h
  have h2 : ∀ c ∈ numL i.natAbs, 48 ≤ c ∧ c ≤ 57 := TL.numL_digits i.natAbs
  unfold numT
  split
  · refine ⟨by rw [List.length_cons]; omega, fun c hc => ?_⟩
    rcases List.mem_cons.mp hc with q | q
    · omega
    · have := h2 c q; omega
  · exact ⟨by omega, fun c hc => by have := h2 c hc; omega⟩
theorem log_mid {k : Int} (h0 : 0 ≤ k) (h : k < 1000000000000000) : k.natAbs.log2 < 9000 := by
  have := log2_few (n := k.natAbs) (k := 64) (by omega) (by decide)
  omega
theorem bent_ok {a b z w : Nat} {ns : List Int} (h20 : 20 ≤ z) (hz : z ≤ 7500000) (hw : w ≤ 999999999999999999) : ∀ (m : Nat) (d : MV), Db z w m d → ∀ {n : Nat} {k : Int} {M : Hm} {Q : MV → Hm → Prop} {E : MX → Hm → Prop}, Sta M a b ns → (∀ e u, Db (2 * z + 10) (2 * w + 10) (m + 1) e → Q e (M.set a (sto b u))) → wp (run tab (n + m + 3) f__law_bent [.ref a, d, .int k] M) Q E := by
  have flat : ∀ {m n : Nat} {d : MV} {k : Int} {M : Hm} {Q : MV → Hm → Prop} {E : MX → Hm → Prop}, Db z w m d → ((∃ i, d = .int i) ∨ ∃ t, d = .str t) → Sta M a b ns → (∀ e u, Db (2 * z + 10) (2 * w + 10) (m + 1) e → Q e (M.set a (sto b u))) → wp (run tab (n + 3) f__law_bent [.ref a, d, .int k] M) Q E := fun {m n d k M Q E} hd hf s h => by
    have fin : ∀ (l : List MV), 0 < l.length → l.length ≤ 20 → (∀ e ∈ l, Db (2 * z + 10) (2 * w + 10) (m + 1) e) → ∀ E', wp (run tab (n + 2) f__law_one_of [.ref a, .ref M.length] (M ++ [.lst l])) (fun d M1 => gcQ M M1 d Q) E' := fun l h0 hl hl2 E' => by
      refine one_of_ok s.app (.inr ⟨_, rfl, get_last, by have := s.la; omega⟩) h0 (by omega) fun e u he => ?_
      rw [set_ap s.la, gcQ_setapp (s.rf u) ((hl2 e he).pu.rf _)]
      exact h e u (hl2 e he)
    have hint : ∀ i : Int, i.natAbs ≤ 2 * w + 10 → Db (2 * z + 10) (2 * w + 10) (m + 1) (.int i) := fun i hi => .int hi
    refine w_run rfl rfl ?_
    rcases hf with ⟨i, rfl⟩ | ⟨t, rfl⟩
    · have hi : i.natAbs ≤ w := by cases hd with | int h => exact h
      have hlog : i.natAbs.log2 < 1920 := log2_64 (by omega)
      have hmul : cMul 2 i = true := cMul_l (by decide)
      simp [d__law_bent, b__law_bent, hlog, hmul]
      refine fin _ (by simp) (by simp) (fun e he => ?_) _
      simp only [List.mem_cons, List.not_mem_nil, or_false] at he
      rcases he with rfl | rfl | rfl | rfl | rfl | rfl | rfl
      · exact hint _ (by omega)
      · exact hint _ (by omega)
      · exact hint _ (by omega)
      · exact hint _ (by omega)
      · exact hint _ (by simp)
      · have := numT_small (i := i) (by omega)
        exact .str (by omega) this.2
      · exact .tup (by simp) fun e he => by rw [List.mem_singleton.mp he]; exact .int (by omega)
    · obtain ⟨ht, hc⟩ : t.length ≤ z ∧ ∀ c ∈ t, c < 1114112 := by cases hd with | str h hc => exact ⟨h, hc⟩
      have hl1 := cut_len t (some 1) none
      have hl2 := cut_len t none (some (-1))
      simp [d__law_bent, b__law_bent]
      refine ⟨by omega, by omega, ?_⟩
      refine fin _ (by simp) (by simp) (fun e he => ?_) _
      simp only [List.mem_cons, List.not_mem_nil, or_false] at he
      rcases he with rfl | rfl | rfl | rfl | rfl | rfl | rfl | rfl
      · exact .str (by simp <;> omega) (by decide)
      · exact .str (by simp <;> omega) (by decide)
      · exact .str (by simp <;> omega) (by decide)
      · refine .str (by simp; omega) fun c q => ?_
        rcases List.mem_append.mp q with q | q
        · exact hc c q
        · rw [List.mem_singleton.mp q]; decide
      · exact .str (by omega) fun c q => hc c (cut_mem q)
      · exact .str (by omega) fun c q => hc c (cut_mem q)
      · exact hint _ (by simp)
      · exact .tup (by simp) fun e he => by cases he
  intro m
  induction m with
  | zero =>
    intro d hd n k M Q E s h
    refine flat hd ?_ s h
    cases hd with
    | int h => exact .inl ⟨_, rfl⟩
    | str h hc => exact .inr ⟨_, rfl⟩
  | succ m ih =>
    intro d hd n k M Q E s h
    cases hd with
    | int hi => exact flat (m := m + 1) (n := n + (m + 1)) (.int hi) (.inl ⟨_, rfl⟩) s h
    | str ht hc => exact flat (m := m + 1) (n := n + (m + 1)) (.str ht hc) (.inr ⟨_, rfl⟩) s h
    | @tup _ l hl hall =>
      have e0 : n + (m + 1) + 3 = (n + m + 3) + 1 := by omega
      rw [e0]
      refine w_run rfl rfl ?_
      have whole : Db (2 * z + 10) (2 * w + 10) (m + 1) (.tup l) := (Db.tup hl hall).mono (by omega) (by omega) _ (Nat.le_refl _)
      have sub : ∀ l' : List MV, l'.length ≤ 2 * z + 10 → (∀ e ∈ l', e ∈ l ∨ e = .int 0) → Db (2 * z + 10) (2 * w + 10) (m + 1 + 1) (.tup l') := fun l' h1 h2 => .tup h1 fun e he => by
        rcases h2 e he with q | q
        · exact (hall e q).mono (by omega) (by omega) _ (by omega)
        · rw [q]; exact .int (by simp)
      simp [d__law_bent, b__law_bent]
      have fin : ∀ (L1 L2 L3 : List MV) (v : Int × Int × Int), 0 < L3.length → L3.length ≤ 20 → (∀ e ∈ L3, Db (2 * z + 10) (2 * w + 10) (m + 1 + 1) e) → ∀ E', wp (run tab (n + m + 3) f__law_one_of [.ref a, .ref (M.length + 2)] (M.set a (sto b v) ++ [.lst L1, .lst L2, .lst L3])) (fun d M1 => gcQ M M1 d Q) E' := fun L1 L2 L3 v h0 hl hl2 E' => by
        have e1 : n + m + 3 = (n + m + 1) + 2 := by omega
        rw [e1]
        refine one_of_ok (s.set v).app (.inr ⟨_, rfl, ?_, by have := s.la; omega⟩) h0 (by omega) fun e u he => ?_
        · have : M.length = (M.set a (sto b v)).length := by simp
          rw [this, get_app]
          rfl
        · rw [set_n s, gcQ_setapp (s.rf u) ((hl2 e he).pu.rf _)]
          exact h e u (hl2 e he)
      have fin2 : ∀ (L1 L2 : List MV) (v : Int × Int × Int), 0 < (L1 ++ L2).length → (L1 ++ L2).length ≤ 20 → (∀ e ∈ L1 ++ L2, Db (2 * z + 10) (2 * w + 10) (m + 1 + 1) e) → ∀ E', wp (fAdd (.ref M.length) (.ref (M.length + 1)) (M.set a (sto b v) ++ [.lst L1, .lst L2])) (fun x M1 => wp (run tab (n + m + 3) f__law_one_of [.ref a, x] M1) (fun d M1 => gcQ M M1 d Q) E') E' := fun L1 L2 v h0 hl hl2 E' => by
        have hA : (M.set a (sto b v) ++ [MO.lst L1, MO.lst L2])[M.length]? = some (.lst L1) := by
          have : M.length = (M.set a (sto b v)).length := by simp
          rw [this, get_app0]
          rfl
        have hB : (M.set a (sto b v) ++ [MO.lst L1, MO.lst L2])[M.length + 1]? = some (.lst L2) := by
          have : M.length = (M.set a (sto b v)).length := by simp
          rw [this, get_app]
          rfl
        rw [w_addL hA hB]
        refine ⟨by rw [List.length_append] at hl; rw [SL_eq]; omega, ?_⟩
        have e1 : (M.set a (sto b v) ++ [MO.lst L1, MO.lst L2]).length = M.length + 2 := by simp
        rw [e1, List.append_assoc]
        exact fin L1 L2 (L1 ++ L2) v h0 hl hl2 E'
      refine ifB_p (fun hpos => ifB_p (fun _ => ?_) fun _ => ?_) fun _ => ?_
      · refine draw_ok s (by decide) (by decide) fun t u h1 h2 => ?_
        simp
        refine ifB_p (fun _ => ?_) fun _ => ?_
        · refine draw_ok (s.set u) (by omega) (log_mid (by omega) (by omega)) fun t v h1 h2 => ?_
          obtain ⟨i, rfl⟩ : ∃ i : Nat, t = i := ⟨_, (Int.toNat_of_nonneg h1).symm⟩
          have hi : i < l.length := by omega
          have e1 : cut l none (some (i : Int)) = l.take i := cut_to l i
          have e2 : cut l (some ((i : Int) + 1)) none = l.drop (i + 1) := cut_from l (i + 1)
          simp [rdI_nat, List.getElem?_eq_getElem hi]
          refine ih _ (hall _ (List.getElem_mem hi)) (s.set v) fun e w2 he => ?_
          simp [e1, e2]
          refine ⟨by omega, by omega, ?_⟩
          have hD : Db (2 * z + 10) (2 * w + 10) (m + 1 + 1) (.tup (l.take i ++ e :: l.drop (i + 1))) := .tup (by simp; omega) fun x hx => by
            rcases List.mem_append.mp hx with q | q
            · exact (hall x (List.mem_of_mem_take q)).mono (by omega) (by omega) _ (by omega)
            · rcases List.mem_cons.mp q with q | q
              · rw [q]; exact he
              · exact (hall x (List.mem_of_mem_drop q)).mono (by omega) (by omega) _ (by omega)
          exact h _ _ hD
        · refine draw_ok (s.set u) (by omega) (log_mid (by omega) (by omega)) fun t v h1 h2 => ?_
          obtain ⟨i, rfl⟩ : ∃ i : Nat, t = i := ⟨_, (Int.toNat_of_nonneg h1).symm⟩
          have e1 : cut l none (some (i : Int)) = l.take i := cut_to l i
          have e2 : cut l (some ((i : Int) + 1)) none = l.drop (i + 1) := cut_from l (i + 1)
          have e3 : cut l (some (i : Int)) none = l.drop i := cut_from l i
          have e4 : cut l (some (i : Int)) (some ((i : Int) + 1)) = (l.drop i).take (i + 1 - i) := cut_mid l i (i + 1)
          simp [e1, e2, e3, e4]
          refine ⟨by omega, by omega, by omega, by omega, by omega, fin2 _ _ _ (by simp) (by simp) (fun e he => ?_) _⟩
          simp only [List.cons_append, List.nil_append, List.mem_cons, List.not_mem_nil, or_false] at he
          rcases he with rfl | rfl | rfl | rfl | rfl | rfl | rfl | rfl | rfl
          · exact sub _ (by simp; omega) fun x hx => .inl ((List.mem_append.mp hx).elim List.mem_of_mem_take List.mem_of_mem_drop)
          · exact sub _ (by simp; omega) fun x hx => .inl ((List.mem_append.mp hx).elim List.mem_of_mem_take fun q => (List.mem_append.mp q).elim (fun q => List.mem_of_mem_drop (List.mem_of_mem_take q)) List.mem_of_mem_drop)
          · exact sub _ (by simp; omega) fun x hx => (List.mem_append.mp hx).elim .inl fun q => .inr (List.mem_singleton.mp q)
          · exact sub _ (by simp) fun x hx => by cases hx
          · exact .int (by simp)
          · exact sub _ (by simp; omega) fun x hx => .inl ((List.mem_append.mp hx).elim List.mem_of_mem_drop List.mem_of_mem_take)
          · exact sub _ (by simp; omega) fun x hx => .inl (List.mem_reverse.mp hx)
          · exact .str (by simp <;> omega) (by decide)
          · exact .tup (by simp) fun e he => by rw [List.mem_singleton.mp he]; exact whole
      · refine draw_ok s (by omega) (log_mid (by omega) (by omega)) fun t v h1 h2 => ?_
        obtain ⟨i, rfl⟩ : ∃ i : Nat, t = i := ⟨_, (Int.toNat_of_nonneg h1).symm⟩
        have e1 : cut l none (some (i : Int)) = l.take i := cut_to l i
        have e2 : cut l (some ((i : Int) + 1)) none = l.drop (i + 1) := cut_from l (i + 1)
        have e3 : cut l (some (i : Int)) none = l.drop i := cut_from l i
        have e4 : cut l (some (i : Int)) (some ((i : Int) + 1)) = (l.drop i).take (i + 1 - i) := cut_mid l i (i + 1)
        simp [e1, e2, e3, e4]
        refine ⟨by omega, by omega, by omega, by omega, by omega, fin2 _ _ _ (by simp) (by simp) (fun e he => ?_) _⟩
        simp only [List.cons_append, List.nil_append, List.mem_cons, List.not_mem_nil, or_false] at he
        rcases he with rfl | rfl | rfl | rfl | rfl | rfl | rfl | rfl | rfl
        · exact sub _ (by simp; omega) fun x hx => .inl ((List.mem_append.mp hx).elim List.mem_of_mem_take List.mem_of_mem_drop)
        · exact sub _ (by simp; omega) fun x hx => .inl ((List.mem_append.mp hx).elim List.mem_of_mem_take fun q => (List.mem_append.mp q).elim (fun q => List.mem_of_mem_drop (List.mem_of_mem_take q)) List.mem_of_mem_drop)
        · exact sub _ (by simp; omega) fun x hx => (List.mem_append.mp hx).elim .inl fun q => .inr (List.mem_singleton.mp q)
        · exact sub _ (by simp) fun x hx => by cases hx
        · exact .int (by simp)
        · exact sub _ (by simp; omega) fun x hx => .inl ((List.mem_append.mp hx).elim List.mem_of_mem_drop List.mem_of_mem_take)
        · exact sub _ (by simp; omega) fun x hx => .inl (List.mem_reverse.mp hx)
        · exact .str (by simp <;> omega) (by decide)
        · exact .tup (by simp) fun e he => by rw [List.mem_singleton.mp he]; exact whole
      · refine draw_ok s (by omega) (log_mid (by omega) (by omega)) fun t v h1 h2 => ?_
        obtain ⟨i, rfl⟩ : ∃ i : Nat, t = i := ⟨_, (Int.toNat_of_nonneg h1).symm⟩
        have e1 : cut l none (some (i : Int)) = l.take i := cut_to l i
        have e2 : cut l (some ((i : Int) + 1)) none = l.drop (i + 1) := cut_from l (i + 1)
        have e3 : cut l (some (i : Int)) none = l.drop i := cut_from l i
        have e4 : cut l (some (i : Int)) (some ((i : Int) + 1)) = (l.drop i).take (i + 1 - i) := cut_mid l i (i + 1)
        simp [e1, e2, e3, e4]
        refine ⟨by omega, by omega, by omega, by omega, by omega, fin2 _ _ _ (by simp) (by simp) (fun e he => ?_) _⟩
        simp only [List.cons_append, List.nil_append, List.mem_cons, List.not_mem_nil, or_false] at he
        rcases he with rfl | rfl | rfl | rfl | rfl | rfl | rfl | rfl | rfl
        · exact sub _ (by simp; omega) fun x hx => .inl ((List.mem_append.mp hx).elim List.mem_of_mem_take List.mem_of_mem_drop)
        · exact sub _ (by simp; omega) fun x hx => .inl ((List.mem_append.mp hx).elim List.mem_of_mem_take fun q => (List.mem_append.mp q).elim (fun q => List.mem_of_mem_drop (List.mem_of_mem_take q)) List.mem_of_mem_drop)
        · exact sub _ (by simp; omega) fun x hx => (List.mem_append.mp hx).elim .inl fun q => .inr (List.mem_singleton.mp q)
        · exact sub _ (by simp) fun x hx => by cases hx
        · exact .int (by simp)
        · exact sub _ (by simp; omega) fun x hx => .inl ((List.mem_append.mp hx).elim List.mem_of_mem_drop List.mem_of_mem_take)
        · exact sub _ (by simp; omega) fun x hx => .inl (List.mem_reverse.mp hx)
        · exact .str (by simp <;> omega) (by decide)
        · exact .tup (by simp) fun e he => by rw [List.mem_singleton.mp he]; exact whole
theorem shuffledA {a b j n : Nat} {ns : List Int} {W : List MV} {M : Hm} {Q : MV → Hm → Prop} {E : MX → Hm → Prop} (s : Sta M a b ns) (hj : M[j]? = some (.lst W)) (hne : j ≠ a) (hW : W.length ≤ 100) (hp : ∀ d ∈ W, Pu d) (h : ∀ (l : List MV) (u : Int × Int × Int), l.Perm W → Q (.ref M.length) (M.set a (sto b u) ++ [.lst l])) : wp (run tab (n + 2) f__law_shuffled [.ref a, .ref j] M) Q E := by
  refine w_run rfl rfl ?_
  simp [d__law_shuffled, b__law_shuffled, rdL_old hj]
  obtain ⟨u0, hu0⟩ := s.self
  have hj2 : ∀ u, (M.set a (sto b u))[j]? = some (.lst W) := fun u => by rw [List.getElem?_set_ne (Ne.symm hne)]; exact hj
  refine wS_forM (F := id) (l := W) (fun p env M' => ∃ (l : List MV) (u : Int × Int × Int) (v : Option MV), l.Perm p ∧ env = [some (.ref a), some (.ref j), some (.ref M.length), v] ∧ M' = M.set a (sto b u) ++ [.lst l]) ⟨[], u0, none, .nil, rfl, by rw [hu0]⟩ ?_ ?_ ?_ (by simp)
  · rintro p env M' ⟨l, u, v, hl, rfl, rfl⟩
    rw [List.map_id]
    exact wk_L (get_old (hj2 u))
  · rintro p x r env M' he ⟨l, u, v, hl, rfl, rfl⟩
    have hp' : p.length < W.length := by
      have := congrArg List.length he
      rw [List.length_append, List.length_cons] at this
      omega
    have hll := hl.length_eq
    have eL : ∀ u, (M.set a (sto b u) ++ [MO.lst l])[M.length]? = some (.lst l) := fun u => by
      have : M.length = (M.set a (sto b u)).length := by simp
      rw [this]
      simp
    have eS : ∀ u o, (M.set a (sto b u) ++ [MO.lst l]).set M.length o = M.set a (sto b u) ++ [o] := fun u o => by
      have : M.length = (M.set a (sto b u)).length := by simp
      rw [this]
      simp
    simp [rdL_of (eL u)]
    refine draw_n s (by omega) (log_few (by omega) (by omega)) fun k v h1 h2 => ?_
    simp [rdL_of (eL v), eS]
    refine ⟨⟨⟨by omega, by omega⟩, by omega⟩, ?_, _, _, _, rfl⟩
    · have e1 : (l.take k.toNat ++ x :: l.drop k.toNat).Perm (x :: l) := by
        have := List.perm_middle (a := x) (l₁ := l.take k.toNat) (l₂ := l.drop k.toNat)
        rwa [List.take_append_drop] at this
      exact e1.trans ((List.Perm.cons x hl).trans (List.perm_append_comm (l₁ := [x])))
  · rintro env M' ⟨l, u, v, hl, rfl, rfl⟩
    have eL : (M.set a (sto b u)).length = M.length := by simp
    simp
    rw [gcQ_setnew0 (s.rf u) (by rw [rfsO_lst]; exact rfsL_iff.mpr fun d hd => (hp d (hl.mem_iff.mp hd)).rf _)]
    exact h l u hl
end K09
set_option maxRecDepth 100000
namespace K09
open Mi TL PySem.NumText
/-! ### integers written and read -/
theorem chunk64 {m : Nat} (h : 10 ^ 64 ≤ m) : numL m = numL (m / 10 ^ 64) ++ padN 64 (m % 10 ^ 64) := by
  have e : m = m / 10 ^ 64 * 10 ^ 64 + m % 10 ^ 64 := (Nat.div_add_mod' m (10 ^ 64)).symm
  have h1 : 1 ≤ m / 10 ^ 64 := (Nat.le_div_iff_mul_le (Nat.pow_pos (by decide))).mpr (by omega)
  have := numL_chunk (k := 64) (q := m / 10 ^ 64) (r := m % 10 ^ 64) (by decide) (Nat.mod_lt _ (Nat.pow_pos (by decide))) h1
  rw [← this, ← e]
theorem joinT_nil : ∀ ss : List Tx, joinT [] ss = ss.flatten
  | [] => rfl
  | [x] => by simp [joinT]
  | x :: y :: r => by
    rw [joinT, joinT_nil (y :: r)]
    rfl
theorem texts_str (ss : List Tx) : textsOf (ss.map MV.str) = some ss := by
  unfold textsOf
  induction ss with
  | nil => rfl
  | cons s ss ih => simp [ih]
def BASEn : Nat := 10 ^ 64
theorem BASE_is : c_BASE = .int ((BASEn : Nat) : Int) := by
  show MV.int _ = MV.int _
  congr 1
theorem BASE_log : ((BASEn : Nat) : Int).natAbs.log2 < 9000 := by
  rw [Int.natAbs_natCast]
  exact Nat.lt_of_lt_of_le (log2_few (k := 213) (by decide) (by decide)) (by decide)
theorem write_nat {n : Nat} {m : Nat} {M : Hm} {Q : MV → Hm → Prop} {E : MX → Hm → Prop} (hl : (numL m).length ≤ 600) (h : Q (.str (numL m)) M) : wp (run tab (n + 1) f_write_integer [.int (m : Int)] M) Q E := by
  refine w_run rfl rfl ?_
  have hB : ∀ i, cDiv i ((BASEn : Nat) : Int) = true := by
    refine cDiv_of ?_
    unfold cDiv
    have h0 : (0 : Int) < ((BASEn : Nat) : Int) := by decide
    rw [decide_eq_true h0, decide_eq_true BASE_log]
    rfl
  simp [d_write_integer, b_write_integer]
  refine wS_whl (fun k env M' => ∃ (q : Nat) (cs : List Tx) (lo : Option MV), env = [some (.int q), some (.ref M.length), lo] ∧ M' = M ++ [.lst (cs.map MV.str)] ∧ numL m = numL q ++ cs.reverse.flatten ∧ k = (numL q).length ∧ 64 * cs.length ≤ cs.reverse.flatten.length)
    (fun k env M' hi => ?_) WL (numL m).length _ _ (by show _ < 1073741824; omega) ⟨m, [], none, by simp, by simp, by simp, rfl, by simp⟩
  obtain ⟨q, cs, lo, rfl, rfl, e, rfl, hc⟩ := hi
  have hcl : cs.reverse.flatten.length ≤ 600 := by
    have := congrArg List.length e
    rw [List.length_append] at this
    omega
  rw [BASE_is]
  simp
  refine ifB_p (fun hge => ?_) fun hlt => ?_
  · have hq : 10 ^ 64 ≤ q := by
      have : BASEn ≤ q := by omega
      exact this
    have hlen := len_pad (k := 64) (n := q % 10 ^ 64) (by decide) (Nat.mod_lt _ (Nat.pow_pos (by decide)))
    have e2 := chunk64 hq
    have hd : ((q : Int) / ((BASEn : Nat) : Int)) = ((q / BASEn : Nat) : Int) := (Int.natCast_ediv _ _).symm
    have hm : ((q : Int) % ((BASEn : Nat) : Int)) = ((q % BASEn : Nat) : Int) := (Int.natCast_emod _ _).symm
    have hlow : q % BASEn < 10 ^ 64 := Nat.mod_lt _ (Nat.pow_pos (by decide))
    have hlog : ((q % BASEn : Nat) : Int).natAbs.log2 < 1920 := by
      rw [Int.natAbs_natCast]
      refine Nat.lt_of_lt_of_le (log2_few (k := 213) (Nat.lt_of_lt_of_le hlow (by decide)) (by decide)) (by decide)
    have hpad : List.replicate (64 - (numL (q % BASEn)).length) 48 ++ numL (q % BASEn) = padN 64 (q % 10 ^ 64) := rfl
    have hpk : PySem.PadOk 64 = true := by decide
    have hns : noSign (numL (q % BASEn)) = true := by
      have h1 := numL_digits (q % BASEn)
      cases hq : numL (q % BASEn) with
      | nil => rfl
      | cons c r =>
        have h2 := h1 c (by rw [hq]; exact List.mem_cons_self)
        unfold noSign
        simp
        omega
    simp [hB, hd, hm, hlog, numT_nat, hpk, hns, hpad, -Int.natCast_ediv, -Int.natCast_emod]
    have hsum : (List.map List.length cs).sum ≤ 600 := by simpa using hcl
    refine ⟨by rw [Int.natAbs_natCast] at hlog; exact hlog, by simp at hc; omega, (numL (q / BASEn)).length, ?_, q / BASEn, rfl, cs ++ [padN 64 (q % 10 ^ 64)], by simp, ?_, rfl, ?_⟩
    · rw [e2, List.length_append, hlen]
      show _ < (numL (q / BASEn)).length + 64
      omega
    · rw [e, e2]
      simp
      rfl
    · simp at hc
      rw [List.map_append, List.sum_append, List.length_append]
      simp [-Nat.reducePow, hlen]
      omega
  · have hq : ¬ 10 ^ 64 ≤ q := fun z => hlt (by
      have : BASEn ≤ q := z
      omega)
    have hlog : ((q : Nat) : Int).natAbs.log2 < 1920 := by
      rw [Int.natAbs_natCast]
      refine Nat.lt_of_lt_of_le (log2_few (k := 213) (Nat.lt_of_lt_of_le (Nat.lt_of_not_le hq) (by decide)) (by decide)) (by decide)
    have hle := congrArg List.length e
    rw [List.length_append] at hle
    have hrev : (List.map MV.str cs ++ [MV.str (numL q)]).reverse = ((cs ++ [numL q]).reverse).map MV.str := by simp
    simp [hlog, numT_nat]
    have ht : textsOf (MV.str (numL q) :: (List.map MV.str cs).reverse) = some (numL q :: cs.reverse) := by
      have := texts_str (numL q :: cs.reverse)
      rw [List.map_cons, List.map_reverse] at this
      exact this
    have hj : joinT [] (numL q :: cs.reverse) = numL m := by rw [joinT_nil, List.flatten_cons, e]
    have hsum : (List.map List.length cs).sum ≤ 600 := by simpa using hcl
    rw [rdO_of ht, hj]
    refine ⟨by rw [Int.natAbs_natCast] at hlog; exact hlog, by simp at hc; omega, ?_, h⟩
    have : (numL q).length ≤ 600 := by omega
    simp
    exact Nat.le_trans (Nat.add_le_add_left (show _ ≤ 600 from hsum) _) (by omega)
theorem write_integer_ok {n : Nat} {i : Int} {M : Hm} {Q : MV → Hm → Prop} {E : MX → Hm → Prop} (hl : (numL i.natAbs).length ≤ 600) (h : Q (.str (numT i)) M) : wp (run tab (n + 2) f_write_integer [.int i] M) Q E := by
  by_cases hi : i < 0
  · refine w_run rfl rfl ?_
    simp [d_write_integer, b_write_integer, hi]
    have e : -i = ((i.natAbs : Nat) : Int) := by omega
    rw [e]
    refine write_nat hl ?_
    rw [numT_neg hi] at h
    simp
    exact ⟨by omega, h⟩
  · have e : i = ((i.natAbs : Nat) : Int) := by omega
    rw [e]
    refine write_nat hl ?_
    rw [numT_pos hi] at h
    exact h
def digs (s : Tx) : Tx := if s.take 1 = [45] then s.drop 1 else s
def okI (s : Tx) : Prop := digs s ≠ [] ∧ ¬ ((digs s)[0]? = some 48 ∧ s ≠ [48]) ∧ AllDigits (digs s)
def valI (s : Tx) : Int := if s[0]? = some 45 then -((digitsVal (digs s) : Nat) : Int) else ((digitsVal (digs s) : Nat) : Int)
theorem mem_digits {c : Nat} : c ∈ [48, 49, 50, 51, 52, 53, 54, 55, 56, 57] ↔ 48 ≤ c ∧ c ≤ 57 := by
  simp
  omega
theorem range64 {h q : Nat} (hh : h < 64) : PySem.Builtin.Range.rangeSize (h : Int) ((h + 64 * q : Nat) : Int) 64 = q := by
  unfold PySem.Builtin.Range.rangeSize
  rw [if_pos (by decide)]
  by_cases hq : q = 0
  · subst hq
    rw [if_neg (by omega)]
    rfl
  · rw [if_pos (by omega)]
    omega
theorem take_drop_app {α : Type} (l : List α) (i j : Nat) : l.take (i + j) = l.take i ++ (l.drop i).take j := List.take_add ..
theorem read_integer_ok {n : Nat} {s : Tx} {M : Hm} {Q : MV → Hm → Prop} {E : MX → Hm → Prop} (hl : s.length ≤ 200000) (h1 : okI s → Q (.int (valI s)) M) (h2 : ¬ okI s → E ⟨x_BadText, none⟩ M) :
    wp (run tab (n + 1) f_read_integer [.str s] M) Q E := by
  refine w_run rfl rfl ?_
  unfold d_read_integer b_read_integer
  dsimp only [List.map, List.replicate, List.append]
  -- digits = the text without its sign
  refine wS_cut (fun env M' => M' = M ∧ env = [some (.str s), some (.str s), none, none, none, none]) ?_ ?_
  · simp
  rintro env M' ⟨rfl, rfl⟩
  have hc1 : cut s none (some 1) = s.take 1 := cut_to s 1
  have hc2 : cut s (some 1) none = s.drop 1 := cut_from s 1
  refine wS_cut (fun env M1 => M1 = M' ∧ env = [some (.str s), some (.str (digs s)), none, none, none, none]) ?_ ?_
  · simp [hc1, hc2]
    refine ⟨by omega, ?_⟩
    by_cases hs : s.take 1 = [45]
    · rw [ifB_true (by simp [hs])]
      simp [digs, hs]
      omega
    · rw [ifB_false (by simp [hs])]
      simp [digs, hs]
  rintro env M1 ⟨rfl, rfl⟩
  have hdl : (digs s).length ≤ s.length := by
    unfold digs
    split
    · rw [List.length_drop]; omega
    · exact Nat.le_refl _
  refine wS_cut (fun env M2 => M2 = M1 ∧ env = [some (.str s), some (.str (digs s)), none, none, none, none] ∧ digs s ≠ [] ∧ ¬ ((digs s)[0]? = some 48 ∧ s ≠ [48])) ?_ ?_
  · simp
    refine ifB_p (fun he => h2 fun z => z.1 he) fun he => ?_
    have hpos : 0 < (digs s).length := List.length_pos_iff.mpr he
    refine ⟨by omega, ?_⟩
    rw [rdN_eq]
    obtain ⟨c0, r0, hd⟩ : ∃ c r, digs s = c :: r := by
      cases h : digs s with
      | nil => exact absurd h he
      | cons c r => exact ⟨c, r, rfl⟩
    rw [hd]
    simp
    refine ifB_p (fun hc => ?_) fun hc => by simp [hc]
    by_cases hz : s = [48]
    · rw [ifB_false (by simp [hz])]
      intro _
      exact hz
    · rw [ifB_true (by simp [hz])]
      refine h2 fun z => z.2.1 ⟨?_, hz⟩
      rw [hd, hc]
      rfl
  rintro env M2 ⟨rfl, rfl, hne, hlead⟩
  have hpos : 0 < (digs s).length := List.length_pos_iff.mpr hne
  -- each sign is a digit
  refine wS_cut (fun env M3 => M3 = M2 ∧ (∃ t, env = [some (.str s), some (.str (digs s)), t, none, none, none]) ∧ AllDigits (digs s)) ?_ ?_
  · simp
    have hmap : (digs s).length = ((digs s).map fun c => MV.str [c]).length := by simp
    rw [hmap]
    refine wS_forT (fun k env M3 => M3 = M2 ∧ (∃ t, env = [some (.str s), some (.str (digs s)), t, none, none, none]) ∧ ∀ j c, j < k → (digs s)[j]? = some c → 48 ≤ c ∧ c ≤ 57) ⟨rfl, ⟨none, rfl⟩, fun j c hj => absurd hj (Nat.not_lt_zero _)⟩ ?_ ?_
    · rintro k d env M3 hd ⟨rfl, ⟨t, rfl⟩, ha⟩
      rw [List.getElem?_map] at hd
      obtain ⟨c, hc, rfl⟩ := Option.map_eq_some_iff.mp hd
      simp [c_DIGITS]
      by_cases hm : 48 ≤ c ∧ c ≤ 57
      · rw [ifB_false (by simp; omega)]
        refine fun j c' hj hc' => ?_
        rcases Nat.lt_or_ge j k with z | z
        · exact ha j c' z hc'
        · have : j = k := by omega
          subst this
          rw [hc] at hc'
          cases hc'
          exact hm
      · rw [ifB_true (by simp; omega)]
        exact h2 fun z => hm (z.2.2 c (List.mem_of_getElem? hc))
    · rintro env M3 ⟨rfl, ⟨t, rfl⟩, ha⟩
      refine ⟨rfl, ⟨t, rfl⟩, fun c hc => ?_⟩
      obtain ⟨j, hj⟩ := List.mem_iff_getElem?.mp hc
      refine ha j c ?_ hj
      rw [← hmap]
      exact (List.getElem?_eq_some_iff.mp hj).1
  rintro env M3 ⟨rfl, ⟨t, rfl⟩, had⟩
  have hok : okI s := ⟨hne, hlead, had⟩
  have h1 := h1 hok
  obtain ⟨hd, q, hlen, hh⟩ : ∃ hd q, (digs s).length = hd + 64 * q ∧ hd < 64 := ⟨(digs s).length % 64, (digs s).length / 64, by omega, by omega⟩
  have hmod : (((digs s).length : Nat) : Int) % 64 = ((hd : Nat) : Int) := by omega
  refine wS_cut (fun env M4 => M4 = M3 ∧ env = [some (.str s), some (.str (digs s)), t, some (.int (hd : Nat)), none, none]) ?_ ?_
  · simp [hmod]
    omega
  rintro env M4 ⟨rfl, rfl⟩
  refine wS_cut (fun env M5 => M5 = M4 ∧ env = [some (.str s), some (.str (digs s)), t, some (.int (hd : Nat)), some (.int 0), none]) ?_ ?_
  · simp
  rintro env M5 ⟨rfl, rfl⟩
  have sub : ∀ (a b : Tx), a.Sublist b → AllDigits b → allDig a = true := fun a b h1 h2 => allDig_iff.mpr fun c hc => h2 c (h1.subset hc)
  refine wS_cut (fun env M6 => M6 = M5 ∧ env = [some (.str s), some (.str (digs s)), t, some (.int (hd : Nat)), some (.int (digitsVal ((digs s).take hd) : Nat)), none]) ?_ ?_
  · simp
    refine ifB_p (fun hp => ?_) fun hp => ?_
    · have ht : cut (digs s) none (some ((hd : Nat) : Int)) = (digs s).take hd := cut_to _ _
      have hl2 : ((digs s).take hd).length = hd := by rw [List.length_take]; omega
      have hn : ((digs s).take hd) ≠ [] := fun z => by rw [z] at hl2; simp at hl2; omega
      simp [ht, sub _ _ (List.take_sublist _ _) had, hn]
      omega
    · have : hd = 0 := by omega
      subst this
      simp
      rfl
  rintro env M6 ⟨rfl, rfl⟩
  have hsz : PySem.Builtin.Range.rangeSize ((hd : Nat) : Int) (((digs s).length : Nat) : Int) 64 = (q : Int) := by
    rw [hlen]
    exact range64 hh
  have hsm : PySem.Builtin.Range.small ((hd : Nat) : Int) (((digs s).length : Nat) : Int) 64 = true := by
    have fit : ∀ x : Int, -1000000000 ≤ x → x ≤ 1000000000 → PySem.Builtin.Range.rangeFitsLong x = true := fun x h1 h2 => by
      unfold PySem.Builtin.Range.rangeFitsLong
      simp only [Bool.and_eq_true, decide_eq_true_eq]
      constructor <;> omega
    unfold PySem.Builtin.Range.small
    rw [hsz, fit _ (by omega) (by omega), fit _ (by omega) (by omega), fit 64 (by decide) (by decide), fit _ (by omega) (by omega), if_pos (by decide), fit _ (by omega) (by omega)]
    simp
  refine wS_cut (fun env M7 => M7 = M6 ∧ ∃ u, env = [some (.str s), some (.str (digs s)), t, some (.int (hd : Nat)), some (.int (digitsVal (digs s) : Nat)), u]) ?_ ?_
  · simp [rg3, hsm, hsz]
    refine ⟨by omega, ?_⟩
    refine wS_forR (fun k env M7 => M7 = M6 ∧ k ≤ q ∧ ∃ u, env = [some (.str s), some (.str (digs s)), t, some (.int (hd : Nat)), some (.int (digitsVal ((digs s).take (hd + 64 * k)) : Nat)), u]) ⟨rfl, by omega, _, rfl⟩ ?_ ?_
    · rintro k env M7 hk ⟨rfl, _, u, rfl⟩
      have e1 : (((hd : Nat) : Int) + (k : Int) * 64) = ((hd + 64 * k : Nat) : Int) := by omega
      have e2 : (((hd + 64 * k : Nat) : Int) + 64) = ((hd + 64 * k + 64 : Nat) : Int) := by omega
      have ht : cut (digs s) (some ((hd + 64 * k : Nat) : Int)) (some ((hd + 64 * k + 64 : Nat) : Int)) = ((digs s).drop (hd + 64 * k)).take 64 := by
        rw [cut_mid, Nat.add_sub_cancel_left]
      have hl2 : (((digs s).drop (hd + 64 * k)).take 64).length = 64 := by
        rw [List.length_take, List.length_drop]
        omega
      have hn : ((digs s).drop (hd + 64 * k)).take 64 ≠ [] := fun z => by rw [z] at hl2; cases hl2
      have hbig : cMul ((digitsVal ((digs s).take (hd + 64 * k)) : Nat) : Int) ((BASEn : Nat) : Int) = true := by
        have hx := dv_lt ((digs s).take (hd + 64 * k)) fun c hc => had c ((List.take_sublist _ _).subset hc)
        have h4 : 10 ^ ((digs s).take (hd + 64 * k)).length ≤ 2 ^ (4 * ((digs s).take (hd + 64 * k)).length) := by
          rw [Nat.pow_mul]
          exact Nat.pow_le_pow_left (by decide) _
        have h5 : 2 ^ (4 * ((digs s).take (hd + 64 * k)).length) ≤ 2 ^ (4 * ((digs s).take (hd + 64 * k)).length + 1) := Nat.pow_le_pow_right (by decide) (by omega)
        have hlg := log2_few (k := 4 * ((digs s).take (hd + 64 * k)).length + 1) (Nat.lt_of_lt_of_le (Nat.lt_of_lt_of_le hx h4) h5) (by omega)
        have hbl : BASEn.log2 < 213 := log2_few (k := 213) (by decide) (by decide)
        have hll : ((digs s).take (hd + 64 * k)).length ≤ 200000 := by rw [List.length_take]; omega
        unfold cMul
        rw [Int.natAbs_natCast, Int.natAbs_natCast, decide_eq_true (by omega)]
        rfl
      have hv : digitsVal ((digs s).take (hd + 64 * (k + 1))) = digitsVal ((digs s).take (hd + 64 * k)) * BASEn + digitsVal (((digs s).drop (hd + 64 * k)).take 64) := by
        rw [show hd + 64 * (k + 1) = hd + 64 * k + 64 by omega, take_drop_app, dv_app, hl2]
        rfl
      rw [e1, BASE_is]
      simp [-Int.natCast_add, -Int.natCast_mul, e2, ht, hbig, hl2, hn, sub _ _ ((List.take_sublist _ _).trans (List.drop_sublist _ _)) had]
      exact ⟨by omega, hk, by rw [hv, Int.natCast_add, Int.natCast_mul]⟩
    · rintro env M7 ⟨rfl, _, u, rfl⟩
      refine ⟨rfl, u, ?_⟩
      rw [← hlen, List.take_length]
  rintro env M7 ⟨rfl, u, rfl⟩
  have hs0 : 0 < s.length := by omega
  obtain ⟨c0, r0, rfl⟩ : ∃ c r, s = c :: r := by
    cases s with
    | nil => simp at hs0
    | cons c r => exact ⟨c, r, rfl⟩
  simp
  simp at hl
  refine ⟨by omega, ?_⟩
  refine ifB_p (fun hc => ?_) fun hc => ?_
  · have e : valI (c0 :: r0) = -((digitsVal (digs (c0 :: r0)) : Nat) : Int) := if_pos (congrArg some hc)
    rw [e] at h1
    exact h1
  · have e : valI (c0 :: r0) = ((digitsVal (digs (c0 :: r0)) : Nat) : Int) := if_neg fun z => hc (Option.some.inj z)
    rw [e] at h1
    exact h1
theorem numT_digs (i : Int) : digs (numT i) = numL i.natAbs := by
  by_cases h : i < 0
  · rw [numT_neg h]
    rfl
  · rw [numT_pos h]
    unfold digs
    rw [if_neg]
    intro z
    obtain ⟨c, r, e⟩ : ∃ c r, numL i.natAbs = c :: r := by
      cases q : numL i.natAbs with
      | nil => exact absurd q (numL_ne _)
      | cons c r => exact ⟨c, r, rfl⟩
    have hd := numL_digits i.natAbs
    rw [e] at z hd
    have : c = 45 := by simpa using z
    have := hd c (by simp)
    omega
theorem numT_ok (i : Int) : okI (numT i) := by
  unfold okI
  rw [numT_digs]
  refine ⟨numL_ne _, fun ⟨h1, h2⟩ => ?_, numL_digits _⟩
  by_cases h0 : i.natAbs = 0
  · have : i = 0 := by omega
    subst this
    exact h2 rfl
  · obtain ⟨c, r, e, hc⟩ := numL_head i.natAbs (by omega)
    rw [e] at h1
    have : c = 48 := by simpa using h1
    omega
theorem numT_val (i : Int) : valI (numT i) = i := by
  unfold valI
  rw [numT_digs, numL_val]
  by_cases h : i < 0
  · rw [numT_neg h, if_pos (show (45 :: numL i.natAbs)[0]? = some 45 from rfl)]
    omega
  · rw [numT_pos h, if_neg]
    · omega
    · intro z
      have := numL_digits i.natAbs 45 (List.mem_of_getElem? z)
      omega
end K09
set_option maxRecDepth 100000
namespace K09
open Mi TL
/-! ### small data -/
section
variable {n : Nat} {M : Hm} {Q : MV → Hm → Prop} {E : MX → Hm → Prop}
theorem is_int_i {i : Int} : wp (run tab (n + 1) f__law_is_int [.int i] M) Q E = Q (.bl true) M := wp_of (run_of fun Q E h => by
  refine w_run rfl rfl ?_
  simp [d__law_is_int, b__law_is_int]
  exact h) _ _
theorem is_int_s {s : Tx} : wp (run tab (n + 1) f__law_is_int [.str s] M) Q E = Q (.bl false) M := wp_of (run_of fun Q E h => by
  refine w_run rfl rfl ?_
  simp [d__law_is_int, b__law_is_int]
  exact h) _ _
theorem is_int_t {l : List MV} : wp (run tab (n + 1) f__law_is_int [.tup l] M) Q E = Q (.bl false) M := wp_of (run_of fun Q E h => by
  refine w_run rfl rfl ?_
  simp [d__law_is_int, b__law_is_int]
  exact h) _ _
theorem is_integer_i {i : Int} : wp (run tab (n + 1) f_is_integer [.int i] M) Q E = Q (.bl true) M := wp_of (run_of fun Q E h => by
  refine w_run rfl rfl ?_
  simp [d_is_integer, b_is_integer]
  exact h) _ _
theorem is_integer_s {s : Tx} : wp (run tab (n + 1) f_is_integer [.str s] M) Q E = Q (.bl false) M := wp_of (run_of fun Q E h => by
  refine w_run rfl rfl ?_
  simp [d_is_integer, b_is_integer]
  exact h) _ _
theorem is_integer_t {l : List MV} : wp (run tab (n + 1) f_is_integer [.tup l] M) Q E = Q (.bl false) M := wp_of (run_of fun Q E h => by
  refine w_run rfl rfl ?_
  simp [d_is_integer, b_is_integer]
  exact h) _ _
theorem is_tuple_t {l : List MV} {k : Int} : wp (run tab (n + 1) f_is_tuple [.tup l, .int k] M) Q E = Q (.bl (decide ((l.length : Int) = k))) M := wp_of (run_of fun Q E h => by
  refine w_run rfl rfl ?_
  simp [d_is_tuple, b_is_tuple]
  exact h) _ _
theorem is_small_i {i : Int} : wp (run tab (n + 2) f_is_small [.int i] M) Q E = Q (.bl (decide (0 ≤ i) && decide (i ≤ 1000000000000))) M := wp_of (run_of fun Q E h => by
  refine w_run rfl rfl ?_
  simp [d_is_small, b_is_small, is_integer_i]
  refine ifB_p (fun h1 => ?_) fun h1 => ?_
  · rw [decide_eq_true h1, Bool.true_and] at h
    exact h
  · rw [decide_eq_false h1, Bool.false_and] at h
    exact h) _ _
theorem is_small_s {s : Tx} : wp (run tab (n + 2) f_is_small [.str s] M) Q E = Q (.bl false) M := wp_of (run_of fun Q E h => by
  refine w_run rfl rfl ?_
  simp [d_is_small, b_is_small, is_integer_s]
  exact h) _ _
theorem is_small_t {l : List MV} : wp (run tab (n + 2) f_is_small [.tup l] M) Q E = Q (.bl false) M := wp_of (run_of fun Q E h => by
  refine w_run rfl rfl ?_
  simp [d_is_small, b_is_small, is_integer_t]
  exact h) _ _
def below (m : Int) : MV → Bool
  | .int i => decide (0 ≤ i) && decide (i < m)
  | _ => false
theorem is_below_i {i m : Int} : wp (run tab (n + 2) f__law_is_below [.int i, .int m] M) Q E = Q (.bl (below m (.int i))) M := wp_of (run_of fun Q E h => by
  refine w_run rfl rfl ?_
  have e : below m (.int i) = (decide (0 ≤ i) && decide (i < m)) := rfl
  rw [e] at h
  simp [d__law_is_below, b__law_is_below, is_int_i]
  refine ifB_p (fun h1 => ?_) fun h1 => ?_
  · rw [decide_eq_true h1, Bool.true_and] at h
    exact h
  · rw [decide_eq_false h1, Bool.false_and] at h
    exact h) _ _
theorem is_below_s {s : Tx} {m : Int} : wp (run tab (n + 2) f__law_is_below [.str s, .int m] M) Q E = Q (.bl false) M := wp_of (run_of fun Q E h => by
  refine w_run rfl rfl ?_
  simp [d__law_is_below, b__law_is_below, is_int_s]
  exact h) _ _
theorem is_below_t {l : List MV} {m : Int} : wp (run tab (n + 2) f__law_is_below [.tup l, .int m] M) Q E = Q (.bl false) M := wp_of (run_of fun Q E h => by
  refine w_run rfl rfl ?_
  simp [d__law_is_below, b__law_is_below, is_int_t]
  exact h) _ _
end
/-- a number, a text or a tuple -/
inductive Sc : MV → Prop
  | int {i : Int} : Sc (.int i)
  | str {s : Tx} : Sc (.str s)
  | tup {l : List MV} : Sc (.tup l)
theorem _root_.Mi.Db.sc {z w m : Nat} {d : MV} (h : Db z w m d) : Sc d := by
  cases h with
  | int _ => exact .int
  | str _ _ => exact .str
  | tup _ _ => exact .tup
theorem Sc.pu {d : MV} (h : Sc d) : True := trivial
section
variable {n : Nat} {M : Hm} {Q : MV → Hm → Prop} {E : MX → Hm → Prop}
theorem is_below_ok {d : MV} {m : Int} (hd : Sc d) : wp (run tab (n + 2) f__law_is_below [d, .int m] M) Q E = Q (.bl (below m d)) M := by
  cases hd with
  | int => exact is_below_i
  | str => exact is_below_s
  | tup => exact is_below_t
/-- small, and below m -/
theorem small_lt {m : Int} (hm : m ≤ 1000001) {d : MV} (hd : Sc d) {env : Env} {a b : Fe} (ha : ∀ Q E, wp (a env M) Q E = Q d M) (hb : ∀ Q E, wp (b env M) Q E = Q (.int m) M) :
    wp (eAnd (eCall (run tab (n + 2)) f_is_small (aCons a aNil)) (eOp fLt a b) env M) Q E = Q (.bl (below m d)) M := by
  cases hd with
  | int =>
    rename_i i
    simp [ha, hb, is_small_i]
    by_cases h0 : 0 ≤ i
    · by_cases h1 : i < m
      · have h2 : i ≤ 1000000000000 := by omega
        simp [below, h0, h1, h2]
      · by_cases h2 : i ≤ 1000000000000 <;> simp [below, h0, h1, h2]
    · simp [below, h0]
  | str => simp [ha, is_small_s, below]
  | tup => simp [ha, is_small_t, below]
end
end K09
set_option maxRecDepth 100000
namespace K09
open Mi TL
/-! ### slots -/
theorem dist_sub : ∀ l : List Int, (dist l).Sublist l
  | [] => .slnil
  | x :: r => by
    unfold dist
    split
    · exact (dist_sub r).cons _
    · exact (dist_sub r).cons₂ _
theorem dist_nd : ∀ l : List Int, l.Nodup → dist l = l
  | [], _ => rfl
  | x :: r, h => by
    obtain ⟨h1, h2⟩ := List.nodup_cons.mp h
    unfold dist
    rw [if_neg h1, dist_nd r h2]
theorem dist_len (l : List Int) : decide (((dist l).length : Int) = l.length) = decide l.Nodup := by
  by_cases h : l.Nodup
  · rw [dist_nd l h, decide_eq_true h, decide_eq_true rfl]
  · rw [decide_eq_false h]
    refine decide_eq_false fun z => h ?_
    have e := (dist_sub l).eq_of_length (by omega)
    rw [← e]
    exact dist_nodup l
def uniq (l : List MV) : Bool := match intsOf l with
  | some ns => decide ns.Nodup
  | none => false
def slotsB (m : Int) (l : List MV) : Bool := l.all (below m) && uniq l
theorem below_ints {m : Int} : ∀ {l : List MV}, l.all (below m) = true → ∃ ns : List Int, l = ns.map MV.int ∧ ∀ i ∈ ns, 0 ≤ i ∧ i < m
  | [], _ => ⟨[], rfl, by simp⟩
  | d :: l, h => by
    rw [List.all_cons, Bool.and_eq_true] at h
    obtain ⟨ns, rfl, q⟩ := below_ints h.2
    cases d with
    | int i =>
      refine ⟨i :: ns, rfl, fun j hj => ?_⟩
      rcases List.mem_cons.mp hj with e | hj
      · subst e
        have := h.1
        unfold below at this
        simpa using this
      · exact q j hj
    | _ => exact absurd h.1 (by simp [below])
section
variable {n : Nat} {M : Hm} {Q : MV → Hm → Prop} {E : MX → Hm → Prop}
theorem are_slots_t {m : Int} {l : List MV} (hm : m ≤ 1000001) (hl : l.length ≤ 4000) (hs : ∀ d ∈ l, Sc d) : wp (run tab (n + 3) f_are_slots [.tup l, .int m] M) Q E = Q (.bl (slotsB m l)) M := wp_of (run_of fun Q E h => by
  refine w_run rfl rfl ?_
  simp [d_are_slots, b_are_slots, wipeE]
  refine w_lcM (fun d => .bl (below m d)) wk_T (by rw [SL_eq]; omega) (fun d hd => ?_) ?_
  · rw [w_gN, small_lt hm (hs d hd) (fun Q E => by simp) (fun Q E => by simp)]
    exact ⟨rfl, rfl⟩
  · rw [boolsOf_map, rdO_some]
    have e : (l.map (below m)).all id = l.all (below m) := by rw [List.all_map]; rfl
    rw [e]
    unfold slotsB at h
    cases ha : l.all (below m) with
    | false =>
      rw [ha] at h
      simpa using h
    | true =>
      rw [ha] at h
      obtain ⟨ns, rfl, _⟩ := below_ints ha
      unfold uniq at h
      rw [intsOf_map] at h
      simp [intsOf_map, dist_len] at h ⊢
      exact ⟨by simpa using hl, h⟩) _ _
theorem are_slots_i {m i : Int} : wp (run tab (n + 3) f_are_slots [.int i, .int m] M) Q E = Q (.bl false) M := wp_of (run_of fun Q E h => by
  refine w_run rfl rfl ?_
  simp [d_are_slots, b_are_slots, wipeE]
  exact h) _ _
theorem are_slots_s {m : Int} {s : Tx} : wp (run tab (n + 3) f_are_slots [.str s, .int m] M) Q E = Q (.bl false) M := wp_of (run_of fun Q E h => by
  refine w_run rfl rfl ?_
  simp [d_are_slots, b_are_slots, wipeE]
  exact h) _ _
end
/-! ### what a row may be -/
structure Sz where
  inner : Int
  slots : Int
  called : Int
  locks : List Int
  ways : Int
def Sz.tp (S : Sz) : MV := .tup [.int S.inner, .int S.slots, .int S.called, .tup (S.locks.map MV.int), .int S.ways]
structure Sz.ok (S : Sz) : Prop where
  inner : 0 ≤ S.inner ∧ S.inner ≤ 1000000
  slots : 0 ≤ S.slots ∧ S.slots ≤ 1000000
  called : 0 ≤ S.called ∧ S.called ≤ 1000000
  ways : 0 ≤ S.ways ∧ S.ways ≤ 1000000
  locks : S.locks.length ≤ 1000 ∧ ∀ i ∈ S.locks, 0 ≤ i ∧ i ≤ 1000000
abbrev k_push : Tx := [112, 117, 115, 104]
abbrev k_load : Tx := [108, 111, 97, 100]
abbrev k_store : Tx := [115, 116, 111, 114, 101]
abbrev k_add : Tx := [97, 100, 100]
abbrev k_sub : Tx := [115, 117, 98]
abbrev k_scale : Tx := [115, 99, 97, 108, 101]
abbrev k_div : Tx := [100, 105, 118]
abbrev k_mod : Tx := [109, 111, 100]
abbrev k_read : Tx := [114, 101, 97, 100]
abbrev k_write : Tx := [119, 114, 105, 116, 101]
abbrev k_length : Tx := [108, 101, 110, 103, 116, 104]
abbrev k_new : Tx := [110, 101, 119]
abbrev k_jump : Tx := [106, 117, 109, 112]
abbrev k_less : Tx := [108, 101, 115, 115]
abbrev k_same : Tx := [115, 97, 109, 101]
abbrev k_call : Tx := [99, 97, 108, 108]
abbrev k_loop : Tx := [108, 111, 111, 112]
abbrev k_tell : Tx := [116, 101, 108, 108]
abbrev k_grab : Tx := [103, 114, 97, 98]
abbrev k_drop : Tx := [100, 114, 111, 112]
abbrev k_get : Tx := [103, 101, 116]
abbrev k_put : Tx := [112, 117, 116]
abbrev k_send : Tx := [115, 101, 110, 100]
abbrev k_take : Tx := [116, 97, 107, 101]
def anyB : MV → Bool
  | .int i => decide ((i.natAbs : Int) ≤ 1000000000000)
  | _ => false
def divB : MV → Bool
  | .int i => decide (2 ≤ i) && decide (i ≤ 1000000000000)
  | _ => false
def bnd (S : Sz) (P : Int) (k : Tx) : Option Int :=
  if k = k_load ∨ k = k_store then some S.inner
  else if k = k_read ∨ k = k_write ∨ k = k_length ∨ k = k_new then some S.slots
  else if k = k_jump ∨ k = k_less ∨ k = k_same then some P
  else if k = k_grab ∨ k = k_drop then some S.locks.length
  else if k = k_send ∨ k = k_take then some S.ways
  else none
def callB (S : Sz) : List MV → Bool
  | [f, .tup l] => below S.called f && slotsB S.slots l
  | _ => false
def pairB (S : Sz) : List MV → Bool
  | [.int a, b] => below S.locks.length (.int a) && below (S.locks[a.toNat]?.getD 0) b
  | _ => false
def oneB (S : Sz) (P : Int) (k : Tx) (x : MV) : Bool :=
  if k = k_push ∨ k = k_scale then anyB x
  else if k = k_div ∨ k = k_mod then divB x
  else match bnd S P k with
    | some m => below m x
    | none => false
def okRow (S : Sz) (P : Int) : MV → Bool
  | .tup (.str k :: r) =>
    if k = k_add ∨ k = k_sub ∨ k = k_loop ∨ k = k_tell then r.isEmpty
    else if k = k_call then callB S r
    else if k = k_get ∨ k = k_put then pairB S r
    else match r with
      | [x] => oneB S P k x
      | _ => false
  | _ => false
end K09
set_option maxRecDepth 100000
namespace K09
open Mi TL
/-! ### sizes, as they are kept -/
def bd (S : Sz) (P : Int) : List (MV × MV) := [(.str k_jump, .int P), (.str k_less, .int P), (.str k_same, .int P), (.str k_load, .int S.inner), (.str k_store, .int S.inner), (.str k_send, .int S.ways), (.str k_take, .int S.ways), (.str k_grab, .int S.locks.length), (.str k_drop, .int S.locks.length)]
def szF (S : Sz) (k : Nat) : List (Tx × MV) := [([98, 111, 117, 110, 100, 115], .ref k), ([115, 108, 111, 116, 115], .int S.slots), ([102, 117, 110, 99, 116, 105, 111, 110, 115], .int S.called), ([108, 111, 99, 107, 115], .tup (S.locks.map MV.int))]
theorem gcQ_kept {M M' : Hm} {d : MV} {Q : MV → Hm → Prop} (h : okH M.length M M' = false) : gcQ M M' d Q = Q d M' := by
  unfold gcQ gcV
  rw [if_neg (by simp [h])]
theorem okH_pre (k : Nat) : ∀ (M G G' : Hm), okH k (M ++ G) (M ++ G') = okH k G G'
  | [], _, _ => rfl
  | a :: M, G, G' => by
    show ((beqO a a || rfsO k a) && okH k (M ++ G) (M ++ G')) = _
    rw [beqO_rfl, okH_pre k M G G']
    rfl
section
variable {n : Nat} {M : Hm} {Q : MV → Hm → Prop} {E : MX → Hm → Prop}
theorem init_ok {S : Sz} {P : Int} (h : Q .non (M ++ [.ins 0 (szF S (M.length + 1)), .dic (bd S P)])) :
    wp (run tab (n + 1) f_Sizes___init__ [.ref M.length, .int P, .int S.inner, .int S.slots, .int S.called, .tup (S.locks.map MV.int), .int S.ways] (M ++ [.ins 0 []])) Q E := by
  refine w_run rfl rfl ?_
  have e1 : putAll [] [(MV.str [106, 117, 109, 112], MV.int P), (MV.str [108, 101, 115, 115], MV.int P), (MV.str [115, 97, 109, 101], MV.int P), (MV.str [108, 111, 97, 100], MV.int S.inner), (MV.str [115, 116, 111, 114, 101], MV.int S.inner)] = [(MV.str [106, 117, 109, 112], MV.int P), (MV.str [108, 101, 115, 115], MV.int P), (MV.str [115, 97, 109, 101], MV.int P), (MV.str [108, 111, 97, 100], MV.int S.inner), (MV.str [115, 116, 111, 114, 101], MV.int S.inner)] := rfl
  have e2 : putAll [] [(MV.str [115, 101, 110, 100], MV.int S.ways), (MV.str [116, 97, 107, 101], MV.int S.ways), (MV.str [103, 114, 97, 98], MV.int S.locks.length), (MV.str [100, 114, 111, 112], MV.int S.locks.length)] = [(MV.str [115, 101, 110, 100], MV.int S.ways), (MV.str [116, 97, 107, 101], MV.int S.ways), (MV.str [103, 114, 97, 98], MV.int S.locks.length), (MV.str [100, 114, 111, 112], MV.int S.locks.length)] := rfl
  have e3 : putAll [(MV.str [106, 117, 109, 112], MV.int P), (MV.str [108, 101, 115, 115], MV.int P), (MV.str [115, 97, 109, 101], MV.int P), (MV.str [108, 111, 97, 100], MV.int S.inner), (MV.str [115, 116, 111, 114, 101], MV.int S.inner)] [(MV.str [115, 101, 110, 100], MV.int S.ways), (MV.str [116, 97, 107, 101], MV.int S.ways), (MV.str [103, 114, 97, 98], MV.int S.locks.length), (MV.str [100, 114, 111, 112], MV.int S.locks.length)] = bd S P := rfl
  simp [d_Sizes___init__, b_Sizes___init__, putM, e1, e2, e3]
  refine ⟨rfl, rfl, rfl, rfl, rfl, rfl, rfl, rfl, rfl, ?_⟩
  have g : ∀ (q : List (MV × MV)) (d : MV) (R : MV → Hm → Prop), rfs (M.length + 2) d = true → rfsP (M.length + 2) (bd S P) = true → gcQ (M ++ [MO.ins 0 [([98, 111, 117, 110, 100, 115], MV.ref (M.length + 1))], .dic q]) (M ++ [MO.ins 0 [([98, 111, 117, 110, 100, 115], MV.ref (M.length + 1))], .dic (bd S P), .dic (putAll [] [(MV.str [115, 101, 110, 100], MV.int S.ways), (MV.str [116, 97, 107, 101], MV.int S.ways), (MV.str [103, 114, 97, 98], MV.int S.locks.length), (MV.str [100, 114, 111, 112], MV.int S.locks.length)])]) d R = R d (M ++ [MO.ins 0 [([98, 111, 117, 110, 100, 115], MV.ref (M.length + 1))], .dic (bd S P)]) := fun q d R hd hb => by
    rw [gcQ_pre (by simp [rfsO, hb]) (by simpa using hd)]
    rfl
  rw [e2] at g
  rw [g _ _ _ rfl rfl]
  simp [putM]
  rw [gcQ_kept]
  · exact h
  · rw [List.length_append, okH_pre]
    simp [rfsO, rfsF, beqO, beqF]
end
end K09
set_option maxRecDepth 100000
namespace K09
open Mi TL
/-! ### one row -/
def rowP : MV → Bool
  | .tup (.str k :: r) => if k = k_add ∨ k = k_sub ∨ k = k_loop ∨ k = k_tell then decide (r.length = 0) else if k = k_call ∨ k = k_get ∨ k = k_put then decide (r.length = 2) else if k ∈ [k_push, k_scale, k_div, k_mod, k_load, k_store, k_read, k_write, k_length, k_new, k_jump, k_less, k_same, k_grab, k_drop, k_send, k_take] then decide (r.length = 1) else false
  | _ => false
section
variable {n : Nat} {M : Hm} {Q : MV → Hm → Prop} {E : MX → Hm → Prop}
theorem sizes_at (k : Tx) : (k ∉ d_SIZES_.map (·.1) ∧ ∀ r, rowP (.tup (.str k :: r)) = false) ∨ k ∈ d_SIZES_.map (·.1) ∧ ∃ s : Nat, d_SIZES_.lookup k = some (.int (s : Int)) ∧ ∀ r, rowP (.tup (.str k :: r)) = decide (r.length = s) := by
  by_cases h : k ∈ d_SIZES_.map (·.1)
  · refine .inr ⟨h, ?_⟩
    have h2 : k ∈ [k_push, k_load, k_store, k_add, k_sub, k_scale, k_div, k_mod, k_read, k_write, k_length, k_new, k_jump, k_less, k_same, k_call, k_loop, k_tell, k_grab, k_drop, k_get, k_put, k_send, k_take] := h
    simp only [List.mem_cons, List.not_mem_nil, or_false] at h2
    rcases h2 with h | h | h | h | h | h | h | h | h | h | h | h | h | h | h | h | h | h | h | h | h | h | h | h <;> subst h <;> exact ⟨_, rfl, fun r => rfl⟩
  · refine .inl ⟨h, fun r => ?_⟩
    have h2 : k ∉ [k_push, k_load, k_store, k_add, k_sub, k_scale, k_div, k_mod, k_read, k_write, k_length, k_new, k_jump, k_less, k_same, k_call, k_loop, k_tell, k_grab, k_drop, k_get, k_put, k_send, k_take] := h
    simp only [List.mem_cons, List.not_mem_nil, or_false, not_or] at h2
    show (if k = k_add ∨ k = k_sub ∨ k = k_loop ∨ k = k_tell then _ else _) = false
    simp only [h2, List.mem_cons, List.not_mem_nil, or_false, if_false]
theorem is_row_ok {z w m : Nat} {d : MV} (hd : Db z w m d) (hm : m < 60) : wp (run tab (n + 2) f_is_row [d] M) Q E = Q (.bl (rowP d)) M := wp_of (run_of fun Q E h => by
  refine w_run rfl rfl ?_
  cases hd with
  | int _ => simp [d_is_row, b_is_row]; exact h
  | str _ _ => simp [d_is_row, b_is_row]; exact h
  | @tup m l hl hall =>
    have e := Db.eq_nil (M := M) (Db.tup hl hall) hm
    cases l with
    | nil => simp [d_is_row, b_is_row, w_eq e]; exact h
    | cons a r =>
      have ha := (hall a List.mem_cons_self).sc
      cases ha with
      | int => simp [d_is_row, b_is_row, w_eq e]; exact h
      | tup => simp [d_is_row, b_is_row, w_eq e]; exact h
      | @str k =>
        rcases sizes_at k with ⟨h1, h2⟩ | ⟨h1, s, h2, h3⟩
        · rw [h2] at h
          have h1 : k ∉ List.map (fun x => x.fst) d_SIZES_ := h1
          simp [d_is_row, b_is_row, w_eq e, -List.mem_map]
          rw [decide_eq_false h1]
          simpa using h
        · rw [h3] at h
          have h1 : k ∈ List.map (fun x => x.fst) d_SIZES_ := h1
          simp [d_is_row, b_is_row, w_eq e, -List.mem_map, h2, is_tuple_t]
          rw [decide_eq_true h1]
          simp
          have e2 : decide ((r.length : Int) + 1 = 1 + s) = decide (r.length = s) := by congr 1; exact propext (by omega)
          rw [e2]
          exact h) _ _
end
end K09
set_option maxRecDepth 100000
namespace K09
open Mi TL
/-! ### a row within sizes -/
theorem rowP_cases {d : MV} (h : rowP d = true) : ∃ k r, d = .tup (.str k :: r) ∧ (((k = k_add ∨ k = k_sub ∨ k = k_loop ∨ k = k_tell) ∧ r = []) ∨ ((k = k_call ∨ k = k_get ∨ k = k_put) ∧ ∃ a b, r = [a, b]) ∨ ((k = k_push ∨ k = k_scale ∨ k = k_div ∨ k = k_mod ∨ k = k_load ∨ k = k_store ∨ k = k_read ∨ k = k_write ∨ k = k_length ∨ k = k_new ∨ k = k_jump ∨ k = k_less ∨ k = k_same ∨ k = k_grab ∨ k = k_drop ∨ k = k_send ∨ k = k_take) ∧ ∃ a, r = [a])) := by
  unfold rowP at h
  split at h
  · rename_i k r
    refine ⟨k, r, rfl, ?_⟩
    split at h
    · rename_i hk
      exact .inl ⟨hk, List.length_eq_zero_iff.mp (of_decide_eq_true h)⟩
    · split at h
      · rename_i hk
        refine .inr (.inl ⟨hk, ?_⟩)
        match r, of_decide_eq_true h with
        | [a, b], _ => exact ⟨a, b, rfl⟩
      · split at h
        · rename_i hk
          simp only [List.mem_cons, List.not_mem_nil, or_false] at hk
          refine .inr (.inr ⟨hk, ?_⟩)
          match r, of_decide_eq_true h with
          | [a], _ => exact ⟨a, rfl⟩
        · cases h
  · cases h
theorem l_b {S : Sz} {k : Nat} : (szF S k).lookup [98, 111, 117, 110, 100, 115] = some (.ref k) := rfl
theorem l_s {S : Sz} {k : Nat} : (szF S k).lookup [115, 108, 111, 116, 115] = some (.int S.slots) := rfl
theorem l_f {S : Sz} {k : Nat} : (szF S k).lookup [102, 117, 110, 99, 116, 105, 111, 110, 115] = some (.int S.called) := rfl
theorem l_l {S : Sz} {k : Nat} : (szF S k).lookup [108, 111, 99, 107, 115] = some (.tup (S.locks.map MV.int)) := rfl
theorem l_m {S : Sz} {k : Nat} : (szF S k).lookup [102, 105, 116, 115] = none := rfl
def szH (M : Hm) (S : Sz) (P : Int) : Hm := M ++ [.ins 0 (szF S (M.length + 1)), .dic (bd S P)]
section
variable {n : Nat} {M : Hm} {Q : MV → Hm → Prop} {E : MX → Hm → Prop}
theorem fin_lt {m i : Int} (hm : m ≤ 1000001) {A : MV → Prop} : ifB (decide (0 ≤ i) && decide (i ≤ 1000000000000)) (A (.bl (decide (i < m)))) (A (.bl false)) = A (.bl (below m (.int i))) := by
  rw [ifB_eq]
  unfold below
  by_cases h0 : 0 ≤ i
  · by_cases h1 : i < m
    · have h2 : i ≤ 1000000000000 := by omega
      simp [h0, h1, h2]
    · by_cases h2 : i ≤ 1000000000000 <;> simp [h0, h1, h2]
  · simp [h0]
/-- no bounds: a slot -/
theorem fits_slot {S : Sz} {P : Int} {k : Tx} {a : MV} (ha : Sc a) (hS : S.slots ≤ 1000000) (h1 : k ≠ k_call) (h2 : k ≠ k_push) (h3 : k ≠ k_scale) (h4 : k ≠ k_div) (h5 : k ≠ k_mod) (h6 : k ≠ k_get) (h7 : k ≠ k_put) (hb : getD (bd S P) (.str k) = none) :
    wp (run tab (n + 4) f_Sizes_fits [.ref M.length, .tup [.str k, a]] (szH M S P)) Q E = Q (.bl (below S.slots a)) (szH M S P) := wp_of (run_of fun Q E h => by
  refine w_run rfl rfl ?_
  unfold szH at h ⊢
  cases ha with
  | int =>
    simp [d_Sizes_fits, b_Sizes_fits, l_b, l_s, l_f, l_l, isKey, is_small_i, h1, h2.symm, h3.symm, h4.symm, h5.symm, h6.symm, h7.symm, hb]
    have hf := fun (i m : Int) (hm : m ≤ 1000001) => @fin_lt m i hm fun v => Q v (M ++ [MO.ins 0 (szF S (M.length + 1)), MO.dic (bd S P)])
    rw [hf _ _ (by omega)]
    exact h
  | str => simp [d_Sizes_fits, b_Sizes_fits, l_b, l_s, l_f, l_l, isKey, is_small_s, h1, h2.symm, h3.symm, h4.symm, h5.symm, h6.symm, h7.symm, hb]; exact h
  | tup => simp [d_Sizes_fits, b_Sizes_fits, l_b, l_s, l_f, l_l, isKey, is_small_t, h1, h2.symm, h3.symm, h4.symm, h5.symm, h6.symm, h7.symm, hb]; exact h) _ _
theorem fits_none {S : Sz} {P : Int} {k : Tx} (h1 : k ≠ k_call) (h2 : k ≠ k_push) (h3 : k ≠ k_scale) (h4 : k ≠ k_div) (h5 : k ≠ k_mod) (h6 : k ≠ k_get) (h7 : k ≠ k_put) (hb : getD (bd S P) (.str k) = none) :
    wp (run tab (n + 4) f_Sizes_fits [.ref M.length, .tup [.str k]] (szH M S P)) Q E = Q (.bl true) (szH M S P) := wp_of (run_of fun Q E h => by
  refine w_run rfl rfl ?_
  unfold szH at h ⊢
  simp [d_Sizes_fits, b_Sizes_fits, l_b, l_s, l_f, l_l, isKey, is_small_i, h1, h2.symm, h3.symm, h4.symm, h5.symm, h6.symm, h7.symm, hb]
  exact h) _ _
theorem fits_bound {S : Sz} {P m : Int} {k : Tx} {a : MV} (ha : Sc a) (hm : m ≤ 1000000) (h1 : k ≠ k_call) (h2 : k ≠ k_push) (h3 : k ≠ k_scale) (h4 : k ≠ k_div) (h5 : k ≠ k_mod) (h6 : k ≠ k_get) (h7 : k ≠ k_put) (hb : getD (bd S P) (.str k) = some (.int m)) :
    wp (run tab (n + 4) f_Sizes_fits [.ref M.length, .tup [.str k, a]] (szH M S P)) Q E = Q (.bl (below m a)) (szH M S P) := wp_of (run_of fun Q E h => by
  refine w_run rfl rfl ?_
  unfold szH at h ⊢
  cases ha with
  | int =>
    simp [d_Sizes_fits, b_Sizes_fits, l_b, l_s, l_f, l_l, isKey, is_small_i, h1, h2.symm, h3.symm, h4.symm, h5.symm, h6.symm, h7.symm, hb]
    have hf := fun (i m : Int) (hm : m ≤ 1000001) => @fin_lt m i hm fun v => Q v (M ++ [MO.ins 0 (szF S (M.length + 1)), MO.dic (bd S P)])
    rw [hf _ _ (by omega)]
    exact h
  | str => simp [d_Sizes_fits, b_Sizes_fits, l_b, l_s, l_f, l_l, isKey, is_small_s, h1, h2.symm, h3.symm, h4.symm, h5.symm, h6.symm, h7.symm, hb]; exact h
  | tup => simp [d_Sizes_fits, b_Sizes_fits, l_b, l_s, l_f, l_l, isKey, is_small_t, h1, h2.symm, h3.symm, h4.symm, h5.symm, h6.symm, h7.symm, hb]; exact h) _ _
theorem fits_any {S : Sz} {P : Int} {k : Tx} {a : MV} (ha : Sc a) (h1 : k ≠ k_call) (h2 : k = k_push ∨ k = k_scale) :
    wp (run tab (n + 4) f_Sizes_fits [.ref M.length, .tup [.str k, a]] (szH M S P)) Q E = Q (.bl (anyB a)) (szH M S P) := wp_of (run_of fun Q E h => by
  refine w_run rfl rfl ?_
  unfold szH at h ⊢
  have h3 : (decide (k_push = k) || decide (k_scale = k)) = true := by rcases h2 with e | e <;> simp [e]
  cases ha with
  | int =>
    simp [d_Sizes_fits, b_Sizes_fits, l_b, l_s, l_f, l_l, isKey, is_integer_i, h1]
    rw [ifB_true (by simpa using h3)]
    exact h
  | str =>
    simp [d_Sizes_fits, b_Sizes_fits, l_b, l_s, l_f, l_l, isKey, is_integer_s, h1]
    rw [ifB_true (by simpa using h3)]
    exact h
  | tup =>
    simp [d_Sizes_fits, b_Sizes_fits, l_b, l_s, l_f, l_l, isKey, is_integer_t, h1]
    rw [ifB_true (by simpa using h3)]
    exact h) _ _
theorem fits_div {S : Sz} {P : Int} {k : Tx} {a : MV} (ha : Sc a) (h1 : k ≠ k_call) (h2 : k ≠ k_push) (h3 : k ≠ k_scale) (h4 : k = k_div ∨ k = k_mod) :
    wp (run tab (n + 4) f_Sizes_fits [.ref M.length, .tup [.str k, a]] (szH M S P)) Q E = Q (.bl (divB a)) (szH M S P) := wp_of (run_of fun Q E h => by
  refine w_run rfl rfl ?_
  unfold szH at h ⊢
  have h5 : (decide (k_div = k) || decide (k_mod = k)) = true := by rcases h4 with e | e <;> simp [e]
  cases ha with
  | @int i =>
    simp [d_Sizes_fits, b_Sizes_fits, l_b, l_s, l_f, l_l, isKey, is_small_i, h1, h2.symm, h3.symm]
    rw [ifB_true (by simpa using h5)]
    have e : divB (.int i) = (decide (2 ≤ i) && decide (i ≤ 1000000000000)) := rfl
    rw [e] at h
    by_cases q1 : 0 ≤ i
    · by_cases q2 : i ≤ 1000000000000
      · rw [ifB_true (by simp [q1, q2])]
        rw [decide_eq_true q2, Bool.and_true] at h
        exact h
      · rw [ifB_false (by simp [q2])]
        rw [decide_eq_false q2, Bool.and_false] at h
        exact h
    · rw [ifB_false (by simp [q1])]
      have q3 : ¬ 2 ≤ i := by omega
      rw [decide_eq_false q3, Bool.false_and] at h
      exact h
  | str =>
    simp [d_Sizes_fits, b_Sizes_fits, l_b, l_s, l_f, l_l, isKey, is_small_s, h1, h2.symm, h3.symm]
    rw [ifB_true (by simpa using h5)]
    exact h
  | tup =>
    simp [d_Sizes_fits, b_Sizes_fits, l_b, l_s, l_f, l_l, isKey, is_small_t, h1, h2.symm, h3.symm]
    rw [ifB_true (by simpa using h5)]
    exact h) _ _
theorem fits_call {S : Sz} {P : Int} {a b : MV} (ha : Sc a) (hb : Sc b) (hc : S.called ≤ 1000000) (hs : S.slots ≤ 1000000) (hl : ∀ l, b = .tup l → l.length ≤ 4000 ∧ ∀ d ∈ l, Sc d) :
    wp (run tab (n + 4) f_Sizes_fits [.ref M.length, .tup [.str k_call, a, b]] (szH M S P)) Q E = Q (.bl (callB S [a, b])) (szH M S P) := wp_of (run_of fun Q E h => by
  refine w_run rfl rfl ?_
  unfold szH at h ⊢
  cases ha with
  | @int i =>
    have fin : ∀ v, callB S [.int i, b] = (below S.called (.int i) && v) → ifB (decide (0 ≤ i) && decide (i ≤ 1000000000000)) (ifB (decide (i < S.called)) (Q (.bl v) (M ++ [MO.ins 0 (szF S (M.length + 1)), MO.dic (bd S P)])) (Q (.bl false) (M ++ [MO.ins 0 (szF S (M.length + 1)), MO.dic (bd S P)]))) (Q (.bl false) (M ++ [MO.ins 0 (szF S (M.length + 1)), MO.dic (bd S P)])) := fun v hv => by
      rw [hv] at h
      unfold below at h
      by_cases q1 : 0 ≤ i
      · by_cases q3 : i < S.called
        · have q2 : i ≤ 1000000000000 := by omega
          rw [ifB_true (by simp [q1, q2]), ifB_true (by simp [q3])]
          simpa [q1, q3] using h
        · by_cases q2 : i ≤ 1000000000000
          · rw [ifB_true (by simp [q1, q2]), ifB_false (by simp [q3])]
            simpa [q1, q3] using h
          · rw [ifB_false (by simp [q2])]
            simpa [q1, q3] using h
      · rw [ifB_false (by simp [q1])]
        simpa [q1] using h
    cases hb with
    | int =>
      simp [d_Sizes_fits, b_Sizes_fits, l_b, l_s, l_f, l_l, isKey, is_small_i, are_slots_i]
      exact fin _ (by rw [Bool.and_false]; rfl)
    | str =>
      simp [d_Sizes_fits, b_Sizes_fits, l_b, l_s, l_f, l_l, isKey, is_small_i, are_slots_s]
      exact fin _ (by rw [Bool.and_false]; rfl)
    | @tup l =>
      have e := fun M Q E => are_slots_t (n := n) (M := M) (Q := Q) (E := E) (m := S.slots) (by omega) (hl l rfl).1 (hl l rfl).2
      simp [d_Sizes_fits, b_Sizes_fits, l_b, l_s, l_f, l_l, isKey, is_small_i, e]
      exact fin _ rfl
  | str =>
    simp [d_Sizes_fits, b_Sizes_fits, l_b, l_s, l_f, l_l, isKey, is_small_s]
    cases hb <;> exact h
  | tup =>
    simp [d_Sizes_fits, b_Sizes_fits, l_b, l_s, l_f, l_l, isKey, is_small_t]
    cases hb <;> exact h) _ _
end
end K09
set_option maxRecDepth 100000
namespace K09
open Mi TL
section
variable {n : Nat} {M : Hm} {Q : MV → Hm → Prop} {E : MX → Hm → Prop}
theorem lock_at {S : Sz} (hS : S.ok) {i : Int} (h0 : 0 ≤ i) (h1 : i < S.locks.length) : ∃ c, S.locks[i.toNat]?.getD 0 = c ∧ 0 ≤ c ∧ c ≤ 1000000 ∧ ∀ (F : MV → Prop), rdI (S.locks.map MV.int) i F = F (.int c) := by
  have hl : i.toNat < S.locks.length := by omega
  refine ⟨S.locks[i.toNat], by rw [List.getElem?_eq_getElem hl]; rfl, (hS.locks.2 _ (List.getElem_mem hl)).1, (hS.locks.2 _ (List.getElem_mem hl)).2, fun F => ?_⟩
  obtain ⟨j, rfl⟩ : ∃ j : Nat, i = j := ⟨_, (Int.toNat_of_nonneg h0).symm⟩
  rw [rdI_nat, List.getElem?_map]
  rw [List.getElem?_eq_getElem (by simpa using hl)]
  rfl
theorem fits_pair {S : Sz} {P : Int} {k : Tx} {a b : MV} (hS : S.ok) (ha : Sc a) (hb : Sc b) (h1 : k ≠ k_call) (h2 : k ≠ k_push) (h3 : k ≠ k_scale) (h4 : k ≠ k_div) (h5 : k ≠ k_mod) (h6 : k = k_get ∨ k = k_put) :
    wp (run tab (n + 4) f_Sizes_fits [.ref M.length, .tup [.str k, a, b]] (szH M S P)) Q E = Q (.bl (pairB S [a, b])) (szH M S P) := wp_of (run_of fun Q E h => by
  refine w_run rfl rfl ?_
  unfold szH at h ⊢
  have h7 : (decide (k_get = k) || decide (k_put = k)) = true := by rcases h6 with e | e <;> simp [e]
  cases ha with
  | @int i =>
    have e : pairB S [.int i, b] = (below S.locks.length (.int i) && below (S.locks[i.toNat]?.getD 0) b) := rfl
    rw [e] at h
    have e2 : below S.locks.length (.int i) = (decide (0 ≤ i) && decide (i < S.locks.length)) := rfl
    rw [e2] at h
    have hlen := hS.locks.1
    simp [d_Sizes_fits, b_Sizes_fits, l_b, l_s, l_f, l_l, is_small_i, h1, h2.symm, h3.symm, h4.symm, h5.symm]
    rw [ifB_true (by simpa using h7)]
    by_cases q1 : 0 ≤ i
    · by_cases q3 : i < S.locks.length
      · have q2 : i ≤ 1000000000000 := by omega
        rw [ifB_true (by simp [q1, q2]), ifB_true (by simp [q3])]
        rw [decide_eq_true q1, decide_eq_true q3, Bool.true_and, Bool.true_and] at h
        obtain ⟨c, hc, c0, c1, hr⟩ := lock_at hS q1 q3
        rw [hc] at h
        cases hb with
        | @int j =>
          simp [is_small_i, hr, l_l]
          have hf := fun (i m : Int) (hm : m ≤ 1000001) => @fin_lt m i hm fun v => Q v (M ++ [MO.ins 0 (szF S (M.length + 1)), MO.dic (bd S P)])
          rw [hf _ _ (by omega)]
          exact h
        | str => simp [is_small_s, l_l, hr]; exact h
        | tup => simp [is_small_t, l_l, hr]; exact h
      · rw [decide_eq_false q3, Bool.and_false, Bool.false_and] at h
        by_cases q2 : i ≤ 1000000000000
        · rw [ifB_true (by simp [q1, q2]), ifB_false (by simp [q3])]
          exact h
        · rw [ifB_false (by simp [q2])]
          exact h
    · rw [decide_eq_false q1, Bool.false_and, Bool.false_and] at h
      rw [ifB_false (by simp [q1])]
      exact h
  | str =>
    simp [d_Sizes_fits, b_Sizes_fits, l_b, l_s, l_f, l_l, is_small_s, h1, h2.symm, h3.symm, h4.symm, h5.symm]
    rw [ifB_true (by simpa using h7)]
    exact h
  | tup =>
    simp [d_Sizes_fits, b_Sizes_fits, l_b, l_s, l_f, l_l, is_small_t, h1, h2.symm, h3.symm, h4.symm, h5.symm]
    rw [ifB_true (by simpa using h7)]
    exact h) _ _
theorem fits_ok {S : Sz} {P : Int} {z w m : Nat} {d : MV} (hS : S.ok) (hP : P ≤ 1000000) (hd : Db z w m d) (hz : z ≤ 4000) (hr : rowP d = true) :
    wp (run tab (n + 4) f_Sizes_fits [.ref M.length, d] (szH M S P)) Q E = Q (.bl (okRow S P d)) (szH M S P) := by
  obtain ⟨k, r, rfl, ⟨hk, rfl⟩ | ⟨hk, a, b, rfl⟩ | ⟨hk, a, rfl⟩⟩ := rowP_cases hr
  · rcases hk with hk | hk | hk | hk <;> subst hk <;> exact fits_none (by decide) (by decide) (by decide) (by decide) (by decide) (by decide) (by decide) rfl
  · obtain ⟨m', ha⟩ : ∃ m', Db z w m' a ∧ Db z w m' b := by cases hd with | tup hl hall => exact ⟨_, hall a (by simp), hall b (by simp)⟩
    rcases hk with hk | hk | hk <;> subst hk
    · refine fits_call ha.1.sc ha.2.sc hS.called.2 hS.slots.2 fun l e => ?_
      subst e
      cases ha.2 with
      | tup hl hall => exact ⟨by omega, fun d hd => (hall d hd).sc⟩
    · exact fits_pair hS ha.1.sc ha.2.sc (by decide) (by decide) (by decide) (by decide) (by decide) (.inl rfl)
    · exact fits_pair hS ha.1.sc ha.2.sc (by decide) (by decide) (by decide) (by decide) (by decide) (.inr rfl)
  · have ha : Sc a := by cases hd with | tup hl hall => exact (hall a (by simp)).sc
    have hb1 := hS.inner.2
    have hb2 := hS.slots.2
    have hb3 := hS.ways.2
    have hb4 := hS.locks.1
    rcases hk with hk | hk | hk | hk | hk | hk | hk | hk | hk | hk | hk | hk | hk | hk | hk | hk | hk <;> subst hk
    · exact fits_any ha (by decide) (.inl rfl)
    · exact fits_any ha (by decide) (.inr rfl)
    · exact fits_div ha (by decide) (by decide) (by decide) (.inl rfl)
    · exact fits_div ha (by decide) (by decide) (by decide) (.inr rfl)
    · exact fits_bound ha hb1 (by decide) (by decide) (by decide) (by decide) (by decide) (by decide) (by decide) rfl
    · exact fits_bound ha hb1 (by decide) (by decide) (by decide) (by decide) (by decide) (by decide) (by decide) rfl
    · exact fits_slot ha hb2 (by decide) (by decide) (by decide) (by decide) (by decide) (by decide) (by decide) rfl
    · exact fits_slot ha hb2 (by decide) (by decide) (by decide) (by decide) (by decide) (by decide) (by decide) rfl
    · exact fits_slot ha hb2 (by decide) (by decide) (by decide) (by decide) (by decide) (by decide) (by decide) rfl
    · exact fits_slot ha hb2 (by decide) (by decide) (by decide) (by decide) (by decide) (by decide) (by decide) rfl
    · exact fits_bound ha hP (by decide) (by decide) (by decide) (by decide) (by decide) (by decide) (by decide) rfl
    · exact fits_bound ha hP (by decide) (by decide) (by decide) (by decide) (by decide) (by decide) (by decide) rfl
    · exact fits_bound ha hP (by decide) (by decide) (by decide) (by decide) (by decide) (by decide) (by decide) rfl
    · exact fits_bound ha (by omega) (by decide) (by decide) (by decide) (by decide) (by decide) (by decide) (by decide) rfl
    · exact fits_bound ha (by omega) (by decide) (by decide) (by decide) (by decide) (by decide) (by decide) (by decide) rfl
    · exact fits_bound ha hb3 (by decide) (by decide) (by decide) (by decide) (by decide) (by decide) (by decide) rfl
    · exact fits_bound ha hb3 (by decide) (by decide) (by decide) (by decide) (by decide) (by decide) (by decide) rfl
/-- a row that fits is a row -/
theorem okRow_row {S : Sz} {P : Int} {d : MV} (h : rowP d = false) : okRow S P d = false := by
  unfold okRow
  split
  · rename_i k r
    unfold rowP at h
    simp only at h
    split
    · rename_i hk
      rw [if_pos hk] at h
      cases r with
      | nil => cases h
      | cons _ _ => rfl
    · rename_i hk1
      rw [if_neg hk1] at h
      have two : r.length ≠ 2 → callB S r = false ∧ pairB S r = false := fun hr => by
        match r, hr with
        | [], _ => exact ⟨rfl, rfl⟩
        | [_], _ => exact ⟨rfl, by unfold pairB; split <;> first | rfl | (rename_i q; cases q)⟩
        | [_, _], hr => exact absurd rfl hr
        | _ :: _ :: _ :: _, _ => exact ⟨by unfold callB; split <;> first | rfl | (rename_i q; cases q), by unfold pairB; split <;> first | rfl | (rename_i q; cases q)⟩
      split
      · rename_i hk
        rw [if_pos (.inl hk)] at h
        exact (two (of_decide_eq_false h)).1
      · rename_i hk2
        split
        · rename_i hk
          rw [if_pos (.inr hk)] at h
          exact (two (of_decide_eq_false h)).2
        · rename_i hk3
          rw [if_neg (by intro q; rcases q with q | q; exact hk2 q; exact hk3 q)] at h
          split
          · rename_i x
            split at h
            · cases h
            · rename_i hk4
              simp only [List.mem_cons, List.not_mem_nil, or_false, not_or] at hk4
              unfold oneB bnd
              simp [hk4]
          · rfl
  · rfl
end
end K09
set_option maxRecDepth 100000
namespace K09
open Mi TL
def codeB (S : Sz) : MV → Bool
  | .tup l => decide (1 ≤ l.length) && (decide (l.length ≤ 400) && l.all (okRow S l.length))
  | _ => false
section
variable {n : Nat} {M : Hm} {Q : MV → Hm → Prop} {E : MX → Hm → Prop}
theorem is_code_ok {S : Sz} {z w m : Nat} {d : MV} (hS : S.ok) (hd : Db z w m d) (hz : z ≤ 4000) (hm : m < 61) :
    wp (run tab (n + 5) f_is_code [d, .int S.inner, .int S.slots, .int S.called, .tup (S.locks.map MV.int), .int S.ways] M) Q E = Q (.bl (codeB S d)) M := wp_of (run_of fun Q E h => by
  refine w_run rfl rfl ?_
  cases hd with
  | int _ => simp [d_is_code, b_is_code]; exact h
  | str _ _ => simp [d_is_code, b_is_code]; exact h
  | @tup m l hl hall =>
    have e : codeB S (.tup l) = (decide (1 ≤ l.length) && (decide (l.length ≤ 400) && l.all (okRow S l.length))) := rfl
    rw [e] at h
    simp [d_is_code, b_is_code]
    by_cases q1 : 1 ≤ l.length
    · rw [decide_eq_true q1, Bool.true_and] at h
      rw [ifB_true (by simp; omega)]
      by_cases q2 : l.length ≤ 400
      · rw [decide_eq_true q2, Bool.true_and] at h
        rw [ifB_false (by simp; omega)]
        have h2 := fun {Q} {E} (h) => @init_ok (n + 3) M Q E S l.length h
        refine h2 ⟨rfl, ?_⟩
        have g : ∀ (G : Hm) d, rfs M.length d = true → gcQ M (M ++ G) d Q = Q d M := fun G d hd => gcQ_app hd
        simp [wipeE]
        refine w_lcM (fun d => .bl (okRow S l.length d)) wk_T (by rw [SL_eq]; omega) (fun d hd => ?_) ?_
        · have hdd := hall d hd
          simp [is_row_ok hdd (by omega)]
          cases hr : rowP d with
          | false =>
            rw [okRow_row hr]
            simp
          | true =>
            simp
            have hf := fun Q E => @fits_ok n M Q E S l.length z w m d hS (by omega) hdd hz hr
            unfold szH at hf
            simp [hf]
            intro a b q
            simp only [szF, List.mem_cons, List.not_mem_nil, or_false, Prod.mk.injEq] at q
            rcases q with ⟨rfl, _⟩ | ⟨rfl, _⟩ | ⟨rfl, _⟩ | ⟨rfl, _⟩ <;> decide
        · rw [boolsOf_map, rdO_some]
          have e : (l.map (okRow S l.length)).all id = l.all (okRow S l.length) := by rw [List.all_map]; rfl
          rw [e]
          simp
          exact h
      · rw [decide_eq_false q2, Bool.false_and] at h
        rw [ifB_true (by simp; omega)]
        exact h
    · rw [decide_eq_false q1, Bool.false_and] at h
      rw [ifB_false (by simp; omega)]
      exact h) _ _
def bn11 (S : Sz) (P : Int) : List (MV × MV) := [(MV.str [108, 111, 97, 100], MV.int S.inner), (MV.str [115, 116, 111, 114, 101], MV.int S.inner), (MV.str [114, 101, 97, 100], MV.int S.slots), (MV.str [119, 114, 105, 116, 101], MV.int S.slots), (MV.str [108, 101, 110, 103, 116, 104], MV.int S.slots), (MV.str [110, 101, 119], MV.int S.slots), (MV.str [106, 117, 109, 112], MV.int P), (MV.str [108, 101, 115, 115], MV.int P), (MV.str [115, 97, 109, 101], MV.int P), (MV.str [103, 114, 97, 98], MV.int S.locks.length), (MV.str [100, 114, 111, 112], MV.int S.locks.length)]
def bn13 (S : Sz) (P : Int) : List (MV × MV) := bn11 S P ++ [(MV.str [115, 101, 110, 100], MV.int S.ways), (MV.str [116, 97, 107, 101], MV.int S.ways)]
theorem okRow_eq {S : Sz} {P : Int} {k : Tx} {r : List MV} : okRow S P (.tup (.str k :: r)) = if k = k_add ∨ k = k_sub ∨ k = k_loop ∨ k = k_tell then r.isEmpty
    else if k = k_call then callB S r
    else if k = k_get ∨ k = k_put then pairB S r
    else match r with
      | [x] => oneB S P k x
      | _ => false := rfl
theorem bn13_get {S : Sz} {P : Int} {k : Tx} : getD (bn13 S P) (.str k) = (bnd S P k).map MV.int := by
  by_cases h : k ∈ [k_load, k_store, k_read, k_write, k_length, k_new, k_jump, k_less, k_same, k_grab, k_drop, k_send, k_take]
  · simp only [List.mem_cons, List.not_mem_nil, or_false] at h
    rcases h with h | h | h | h | h | h | h | h | h | h | h | h | h <;> subst h <;> rfl
  · simp only [List.mem_cons, List.not_mem_nil, or_false, not_or] at h
    have e : bnd S P k = none := by
      unfold bnd
      simp [h]
    rw [e]
    unfold getD bn13 bn11
    have h2 : ∀ a : Tx, ¬ k = a → kEq (.str a) (.str k) = false := fun a q => decide_eq_false fun z => q z.symm
    simp only [List.cons_append, List.nil_append, List.find?_cons]
    simp [h2, h]
open PySem in
def inPre (M : Hm) (l : List MV) (k : Nat) : Bool := match pyD 60 M (l[k]?.getD .non), pyD 60 M (.tup (l.take k)) with
  | some d, some (.tuple ds) => ds.any fun z => PyData.eqv z d
  | _, _ => false
open PySem in
theorem inPre_ints {M : Hm} {ns : List Int} {k : Nat} {i : Int} (h : ns[k]? = some i) : inPre M (ns.map MV.int) k = decide (i ∈ ns.take k) := by
  have e1 : ∀ ms : List Int, (ms.map MV.int).mapM (pyD 59 M) = some (ms.map PyData.int) := by
    intro ms
    induction ms with
    | nil => rfl
    | cons m ms ih =>
      rw [List.map_cons, List.mapM_cons, ih]
      rfl
  have e2 : pyD 60 M (.tup ((ns.map MV.int).take k)) = some (.tuple ((ns.take k).map PyData.int)) := by
    show (((ns.map MV.int).take k).mapM (pyD 59 M)).map PyData.tuple = _
    rw [← List.map_take, e1]
    rfl
  have e3 : (ns.map MV.int)[k]?.getD .non = .int i := by rw [List.getElem?_map, h]; rfl
  unfold inPre
  rw [e3, e2]
  show (((ns.take k).map PyData.int).any fun z => PyData.eqv z (.int i)) = _
  rw [List.any_map]
  generalize ns.take k = ms
  induction ms with
  | nil => rfl
  | cons m ms ih =>
    rw [List.any_cons, ih]
    simp only [Function.comp, PyData.eqv]
    by_cases q : m = i
    · subst q; simp
    · by_cases q2 : i ∈ ms <;> simp [q, Ne.symm q, q2]
theorem nodup_pre : ∀ (ns : List Int), ns.Nodup ↔ ∀ k i, ns[k]? = some i → i ∉ ns.take k := by
  intro ns
  constructor
  · intro h k i hk hm
    obtain ⟨j, hj⟩ := List.mem_iff_getElem?.mp hm
    have hj1 : j < k := by
      have := (List.getElem?_eq_some_iff.mp hj).1
      rw [List.length_take] at this
      omega
    rw [List.getElem?_take_of_lt hj1] at hj
    obtain ⟨h1, h2⟩ := List.getElem?_eq_some_iff.mp hj
    obtain ⟨h3, h4⟩ := List.getElem?_eq_some_iff.mp hk
    have := (List.nodup_iff_pairwise_ne.mp h |> List.pairwise_iff_getElem.mp) j k h1 h3 hj1
    exact this (h2.trans h4.symm)
  · intro h
    refine List.pairwise_iff_getElem.mpr fun j k hj hk hjk z => ?_
    refine h k ns[k] (List.getElem?_eq_getElem hk) ?_
    rw [← z]
    refine List.mem_iff_getElem?.mpr ⟨j, ?_⟩
    rw [List.getElem?_take_of_lt hjk, List.getElem?_eq_getElem hj]
theorem filter_all {α β : Type} {f : α → Option β} : ∀ {l : List α}, ((l.filterMap f).length = l.length) ↔ ∀ d ∈ l, f d ≠ none
  | [] => by simp
  | d :: l => by
    have hle := List.length_filterMap_le f l
    rw [List.filterMap_cons]
    cases h : f d with
    | none =>
      simp only [List.length_cons]
      constructor
      · intro z; omega
      · intro z; exact absurd h (z d List.mem_cons_self)
    | some y =>
      simp only [List.length_cons]
      rw [Nat.add_right_cancel_iff, filter_all]
      constructor
      · intro z e he
        rcases List.mem_cons.mp he with q | q
        · rw [q, h]; simp
        · exact z e q
      · intro z e he
        exact z e (List.mem_cons_of_mem _ he)
def unF (M : Hm) (y : List MV) : MV → Option MV
  | .int k => if inPre M y k.toNat then none else some (.int k)
  | _ => none
theorem unlike_len {M : Hm} {ns : List Int} : (((List.range (ns.map MV.int).length).map fun k : Nat => MV.int (0 + k * 1)).filterMap (unF M (ns.map MV.int))).length = (ns.map MV.int).length ↔ ns.Nodup := by
  have e : (ns.map MV.int).length = ((List.range (ns.map MV.int).length).map fun k : Nat => MV.int (0 + k * 1)).length := by simp
  rw [nodup_pre]
  conv => lhs; rhs; rw [e]
  rw [filter_all]
  constructor
  · intro h k i hk hm
    have hl := (List.getElem?_eq_some_iff.mp hk).1
    have := h (.int (0 + k * 1)) (List.mem_map.mpr ⟨k, by simpa using hl, rfl⟩)
    have e3 : (0 + (k : Int) * 1) = (k : Int) := by omega
    rw [e3] at this
    unfold unF at this
    simp only [Int.toNat_natCast, inPre_ints hk] at this
    rw [if_pos (by simpa using hm)] at this
    exact this rfl
  · intro h d hd
    obtain ⟨k, hk, rfl⟩ := List.mem_map.mp hd
    have hl : k < ns.length := by simpa using hk
    have e3 : (0 + (k : Int) * 1) = (k : Int) := by omega
    rw [e3]
    unfold unF
    simp only [Int.toNat_natCast, inPre_ints (List.getElem?_eq_getElem hl)]
    rw [if_neg (by simpa using h k _ (List.getElem?_eq_getElem hl))]
    simp
theorem law_is_row_ok {S : Sz} {P : Int} {z w m : Nat} {d : MV} (hS : S.ok) (hd : Db z w m d) (hz : z ≤ 4000) (hm : m < 60) :
    wp (run tab (n + 3) f__law_is_row [d, .int P, S.tp] M) Q E = Q (.bl (okRow S P d)) M := wp_of (run_of fun Q E h => by
  refine w_run rfl rfl ?_
  unfold Sz.tp
  cases hd with
  | int _ => simp [d__law_is_row, b__law_is_row]; exact h
  | str _ _ => simp [d__law_is_row, b__law_is_row]; exact h
  | @tup m l hl hall =>
    have e := fun M => Db.eq_nil (M := M) (Db.tup hl hall) hm
    cases l with
    | nil => simp [d__law_is_row, b__law_is_row, w_eq (e _)]; exact h
    | cons a r =>
      have ha := (hall a List.mem_cons_self).sc
      cases ha with
      | int => simp [d__law_is_row, b__law_is_row, w_eq (e _)]; exact h
      | tup => simp [d__law_is_row, b__law_is_row, w_eq (e _)]; exact h
      | @str k =>
        rw [okRow_eq] at h
        have f1 : putAll [] [(MV.str [108, 111, 97, 100], MV.int S.inner), (MV.str [115, 116, 111, 114, 101], MV.int S.inner), (MV.str [114, 101, 97, 100], MV.int S.slots), (MV.str [119, 114, 105, 116, 101], MV.int S.slots), (MV.str [108, 101, 110, 103, 116, 104], MV.int S.slots), (MV.str [110, 101, 119], MV.int S.slots)] = [(MV.str [108, 111, 97, 100], MV.int S.inner), (MV.str [115, 116, 111, 114, 101], MV.int S.inner), (MV.str [114, 101, 97, 100], MV.int S.slots), (MV.str [119, 114, 105, 116, 101], MV.int S.slots), (MV.str [108, 101, 110, 103, 116, 104], MV.int S.slots), (MV.str [110, 101, 119], MV.int S.slots)] := rfl
        have f2 : putAll [] [(MV.str [106, 117, 109, 112], MV.int P), (MV.str [108, 101, 115, 115], MV.int P), (MV.str [115, 97, 109, 101], MV.int P), (MV.str [103, 114, 97, 98], MV.int S.locks.length), (MV.str [100, 114, 111, 112], MV.int S.locks.length)] = [(MV.str [106, 117, 109, 112], MV.int P), (MV.str [108, 101, 115, 115], MV.int P), (MV.str [115, 97, 109, 101], MV.int P), (MV.str [103, 114, 97, 98], MV.int S.locks.length), (MV.str [100, 114, 111, 112], MV.int S.locks.length)] := rfl
        have f4 : putAll [] [(MV.str [115, 101, 110, 100], MV.int S.ways), (MV.str [116, 97, 107, 101], MV.int S.ways)] = [(MV.str [115, 101, 110, 100], MV.int S.ways), (MV.str [116, 97, 107, 101], MV.int S.ways)] := rfl
        have f3 : putAll [(MV.str [108, 111, 97, 100], MV.int S.inner), (MV.str [115, 116, 111, 114, 101], MV.int S.inner), (MV.str [114, 101, 97, 100], MV.int S.slots), (MV.str [119, 114, 105, 116, 101], MV.int S.slots), (MV.str [108, 101, 110, 103, 116, 104], MV.int S.slots), (MV.str [110, 101, 119], MV.int S.slots)] [(MV.str [106, 117, 109, 112], MV.int P), (MV.str [108, 101, 115, 115], MV.int P), (MV.str [115, 97, 109, 101], MV.int P), (MV.str [103, 114, 97, 98], MV.int S.locks.length), (MV.str [100, 114, 111, 112], MV.int S.locks.length)] = bn11 S P := rfl
        have f5 : putAll (bn11 S P) [(MV.str [115, 101, 110, 100], MV.int S.ways), (MV.str [116, 97, 107, 101], MV.int S.ways)] = bn13 S P := rfl
        have f6 : ∀ k, rfsP k (bn11 S P) = true := fun k => rfl
        have f7 : ∀ k, rfsP k (bn13 S P) = true := fun k => rfl
        have f8 : (bn11 S P).length = 11 := rfl
        have f9 : ∀ s, isKey (.str s) = true := fun s => rfl
        simp [d__law_is_row, b__law_is_row, w_eq (e _), f1, f2, f3, f4, f5, f6, f7, f8, f9, rfsO, beqO_rfl, Nat.add_assoc]
        have sc : ∀ d ∈ r, Sc d := fun d hd => (hall d (List.mem_cons_of_mem _ hd)).sc
        by_cases k1 : k = k_add ∨ k = k_sub ∨ k = k_loop ∨ k = k_tell
        · rw [if_pos k1] at h
          have t1 : (decide (k_add = k) || (decide (k_sub = k) || (decide (k_loop = k) || decide (k_tell = k)))) = true := by rcases k1 with q | q | q | q <;> simp [q]
          rw [ifB_true t1]
          cases r with
          | nil => exact h
          | cons x r => rw [decide_eq_false (by rw [List.length_cons]; omega)]; exact h
        · rw [if_neg k1] at h
          have t1 : (decide (k_add = k) || (decide (k_sub = k) || (decide (k_loop = k) || decide (k_tell = k)))) = false := by
            simp only [not_or] at k1
            simp [Ne.symm k1.1, Ne.symm k1.2.1, Ne.symm k1.2.2.1, Ne.symm k1.2.2.2]
          rw [ifB_false t1]
          by_cases k2 : k = k_call
          · rw [if_pos k2] at h
            rw [ifB_true (by rw [k2]; rfl)]
            match r, hl, hall, sc, h with
            | [], hl, hall, sc, h => rw [ifB_true (by simp)]; exact h
            | [_], hl, hall, sc, h => rw [ifB_true (by simp)]; exact h
            | _ :: _ :: _ :: _, hl, hall, sc, h =>
              rw [ifB_true (by simp only [List.length_cons, Bool.not_eq_true', decide_eq_false_iff_not]; omega)]
              have e0 : ∀ a b c d, callB S (a :: b :: c :: d) = false := fun a b c d => by
                unfold callB
                split
                · rename_i q; cases q
                · rfl
              rw [e0] at h
              exact h
            | [a, b], hl, hall, sc, h =>
              rw [ifB_false (by simp)]
              have ha := sc a (by simp)
              have hb := sc b (by simp)
              simp [is_below_ok ha]
              cases q1 : below S.called a with
              | false =>
                have : callB S [a, b] = false := by unfold callB; split <;> simp_all
                rw [this] at h
                simp
                exact h
              | true =>
                simp
                cases hb with
                | int => simp; exact h
                | str => simp; exact h
                | @tup y =>
                  have e1 : callB S [a, .tup y] = slotsB S.slots y := by show (below S.called a && _) = _; rw [q1]; rfl
                  rw [e1] at h
                  obtain ⟨my, hym⟩ : ∃ my, my + 1 < 60 ∧ Db z w (my + 1) (.tup y) := by
                    have := hall (.tup y) (by simp)
                    cases this with
                    | tup h1 h2 => exact ⟨_, by omega, .tup h1 h2⟩
                  obtain ⟨hmy, hdy⟩ := hym
                  obtain ⟨hyl, hya⟩ : y.length ≤ z ∧ ∀ d ∈ y, Db z w my d := by cases hdy with | tup h1 h2 => exact ⟨h1, h2⟩
                  simp [in62_nat (n := y.length) (by omega), wipeE]
                  have hlr : ((List.range y.length).map fun k : Nat => MV.int (0 + k * 1)).length = y.length := by simp
                  have key := fun {Ql} {E} {c} {ee} {env} {M : Hm} (hs) (h) => w_lcF (Ql := Ql) (E := E) (M := M) (c := c) (e := ee) (env := env) (g := gN 11) (ni := nR 0 1 y.length) (l := (List.range y.length).map fun k : Nat => MV.int (0 + k * 1)) (unF M y) wk_R (by rw [hlr, SL_eq]; omega) hs h
                  rw [hlr] at key
                  refine key (fun d hd => ?_) ?_
                  · obtain ⟨k, hk, rfl⟩ := List.mem_map.mp hd
                    rw [List.mem_range] at hk
                    have e3 : (0 + (k : Int) * 1) = (k : Int) := by omega
                    rw [e3]
                    have hct : cut y none (some (k : Int)) = y.take k := cut_to y k
                    simp [rdI_nat, List.getElem?_eq_getElem hk, hct]
                    obtain ⟨x1, p1, p2, p3⟩ := (hya y[k] (List.getElem_mem hk)).py 60 (M ++ [MO.lst [MV.str [97, 100, 100], MV.str [115, 117, 98], MV.str [108, 111, 111, 112], MV.str [116, 101, 108, 108]]]) (by omega)
                    have hdt : Db z w (my + 1) (.tup (y.take k)) := .tup (by rw [List.length_take]; omega) fun d hd => hya d (List.mem_of_mem_take hd)
                    obtain ⟨x2, r1, r2, r3⟩ := hdt.py 60 (M ++ [MO.lst [MV.str [97, 100, 100], MV.str [115, 117, 98], MV.str [108, 111, 111, 112], MV.str [116, 101, 108, 108]]]) (by omega)
                    obtain ⟨ds, rfl⟩ : ∃ ds, x2 = .tuple ds := by
                      have r4 : ((y.take k).mapM (pyD 59 (M ++ [MO.lst [MV.str [97, 100, 100], MV.str [115, 117, 98], MV.str [108, 111, 111, 112], MV.str [116, 101, 108, 108]]]))).map PySem.PyData.tuple = some x2 := r1
                      obtain ⟨ds, _, e⟩ := Option.map_eq_some_iff.mp r4
                      exact ⟨ds, e.symm⟩
                    have hsh : (PySem.SeqAt.shaped x1 && PySem.SeqAt.shaped (.tuple ds)) = true := by
                      unfold PySem.SeqAt.shaped
                      rw [p2, r2, decide_eq_true (by omega), decide_eq_true (by omega)]
                      rfl
                    rw [w_inD p1 r1 hsh]
                    have e5 : inPre (M ++ [MO.lst [MV.str [97, 100, 100], MV.str [115, 117, 98], MV.str [108, 111, 111, 112], MV.str [116, 101, 108, 108]]]) y k = ds.any fun z => PySem.PyData.eqv z x1 := by
                      unfold inPre
                      rw [List.getElem?_eq_getElem hk, Option.getD_some, p1, r1]
                    have e6 : unF (M ++ [MO.lst [MV.str [97, 100, 100], MV.str [115, 117, 98], MV.str [108, 111, 111, 112], MV.str [116, 101, 108, 108]]]) y (.int (k : Nat)) = if (ds.any fun z => PySem.PyData.eqv z x1) = true then none else some (.int (k : Nat)) := by
                      unfold unF
                      simp only [Int.toNat_natCast, e5]
                    rw [e6]
                    cases ds.any fun z => PySem.PyData.eqv z x1 with
                    | true => simp
                    | false => simp
                  · have cmp : ∀ (M : Hm) (env : Env) (R : List MV → Hm → Prop) (E : MX → Hm → Prop), (∀ d F, rdE (env.set 12 (some d)) 4 F = F (.int S.slots)) → env.length = 13 → R (y.map fun d => .bl (below S.slots d)) M → wp (lcGo (nT y) (gN 12) cYes (eCall (run tab (n + 2)) f__law_is_below (aCons (eVar 12) (aCons (eVar 4) aNil))) env (y.length + 1) 0 [] M) R E := fun M env R E h4 h5 hR => by
                      refine w_lcM (fun d => .bl (below S.slots d)) wk_T (by rw [SL_eq]; omega) (fun d hd => ?_) hR
                      have h6 : ∀ F, rdE (env.set 12 (some d)) 12 F = F d := fun F => by
                        rw [rdE_eq, List.getElem?_set_self (by omega)]
                      simp [h4, h6, is_below_ok (hya d hd).sc]
                    refine ⟨fun t => ?_, fun t => ?_⟩
                    · refine cmp _ _ _ _ (fun d F => by simp) rfl ?_
                      rw [boolsOf_map, rdO_some]
                      have e : (y.map (below S.slots)).all id = y.all (below S.slots) := by rw [List.all_map]; rfl
                      rw [e]
                      unfold slotsB at h
                      cases q2 : y.all (below S.slots) with
                      | false =>
                        rw [q2] at h
                        simp
                        exact h
                      | true =>
                        rw [q2] at h
                        obtain ⟨ns, rfl, _⟩ := below_ints q2
                        have hn := unlike_len.mp (Int.ofNat.inj (of_decide_eq_true t))
                        unfold uniq at h
                        rw [intsOf_map] at h
                        simp [hn] at h
                        simp
                        exact h
                    · unfold slotsB at h
                      cases q2 : y.all (below S.slots) with
                      | false =>
                        rw [q2] at h
                        simp
                        exact h
                      | true =>
                        rw [q2] at h
                        obtain ⟨ns, rfl, _⟩ := below_ints q2
                        have hn : ¬ ns.Nodup := fun z => of_decide_eq_false t (congrArg Int.ofNat (unlike_len.mpr z))
                        unfold uniq at h
                        rw [intsOf_map] at h
                        simp [hn] at h
                        simp
                        exact h
          · rw [if_neg k2] at h
            rw [ifB_false (decide_eq_false k2)]
            by_cases k3 : k = k_get ∨ k = k_put
            · rw [if_pos k3] at h
              have t3 : (decide (k_get = k) || decide (k_put = k)) = true := by rcases k3 with q | q <;> simp [q]
              rw [ifB_true t3]
              match r, hl, hall, sc, h with
              | [], hl, hall, sc, h => rw [ifB_false (by simp)]; exact h
              | [x], hl, hall, sc, h =>
                have e0 : pairB S [x] = false := by unfold pairB; split <;> first | rfl | (rename_i q; cases q)
                rw [e0] at h
                rw [ifB_false (by simp)]; exact h
              | a :: b :: c :: d, hl, hall, sc, h =>
                have e0 : pairB S (a :: b :: c :: d) = false := by unfold pairB; split <;> first | rfl | (rename_i q; cases q)
                rw [e0] at h
                rw [ifB_false (by simp only [List.length_cons, decide_eq_false_iff_not]; omega)]
                exact h
              | [a, b], hl, hall, sc, h =>
                rw [ifB_true (by simp)]
                have ha := sc a (by simp)
                have hb := sc b (by simp)
                simp [is_below_ok ha]
                cases ha with
                | str => simp [below]; exact h
                | tup => simp [below]; exact h
                | @int i =>
                  have e : pairB S [.int i, b] = (below S.locks.length (.int i) && below (S.locks[i.toNat]?.getD 0) b) := rfl
                  rw [e] at h
                  cases q1 : below S.locks.length (.int i) with
                  | false =>
                    rw [q1] at h
                    simp
                    exact h
                  | true =>
                    rw [q1, Bool.true_and] at h
                    have q2 : 0 ≤ i ∧ i < S.locks.length := by
                      have e2 : below S.locks.length (.int i) = (decide (0 ≤ i) && decide (i < S.locks.length)) := rfl
                      rw [e2] at q1
                      simpa using q1
                    obtain ⟨c, hc, c0, c1, hr⟩ := lock_at hS q2.1 q2.2
                    rw [hc] at h
                    simp [hr, is_below_ok hb]
                    exact h
            · rw [if_neg k3] at h
              have t3 : (decide (k_get = k) || decide (k_put = k)) = false := by
                simp only [not_or] at k3
                simp [Ne.symm k3.1, Ne.symm k3.2]
              rw [ifB_false t3]
              match r, hl, hall, sc, h with
              | [], hl, hall, sc, h => rw [ifB_true (by simp)]; exact h
              | _ :: _ :: _, hl, hall, sc, h => rw [ifB_true (by simp only [List.length_cons, Bool.not_eq_true', decide_eq_false_iff_not]; omega)]; exact h
              | [x], hl, hall, sc, h =>
                rw [ifB_false (by simp)]
                have hx := sc x (by simp)
                have h : Q (.bl (oneB S P k x)) M := h
                unfold oneB at h
                by_cases k4 : k = k_push ∨ k = k_scale
                · rw [if_pos k4] at h
                  have t4 : (decide (k_push = k) || decide (k_scale = k)) = true := by rcases k4 with q | q <;> simp [q]
                  rw [ifB_true t4]
                  have c12 : cPow 10 12 = true := by decide
                  cases hx with
                  | int => simp [is_int_i, c12]; exact h
                  | str => simp [is_int_s]; exact h
                  | tup => simp [is_int_t]; exact h
                · rw [if_neg k4] at h
                  have t4 : (decide (k_push = k) || decide (k_scale = k)) = false := by
                    simp only [not_or] at k4
                    simp [Ne.symm k4.1, Ne.symm k4.2]
                  rw [ifB_false t4]
                  by_cases k5 : k = k_div ∨ k = k_mod
                  · rw [if_pos k5] at h
                    have t5 : (decide (k_div = k) || decide (k_mod = k)) = true := by rcases k5 with q | q <;> simp [q]
                    rw [ifB_true t5]
                    have c12 : cPow 10 12 = true := by decide
                    cases hx with
                    | @int i =>
                      have e : divB (.int i) = (decide (2 ≤ i) && decide (i ≤ 1000000000000)) := rfl
                      rw [e] at h
                      simp [is_int_i, c12]
                      refine ifB_p (fun q => ?_) fun q => ?_
                      · rw [decide_eq_true q, Bool.true_and] at h
                        exact h
                      · rw [decide_eq_false q, Bool.false_and] at h
                        exact h
                    | str => simp [is_int_s]; exact h
                    | tup => simp [is_int_t]; exact h
                  · rw [if_neg k5] at h
                    have t5 : (decide (k_div = k) || decide (k_mod = k)) = false := by
                      simp only [not_or] at k5
                      simp [Ne.symm k5.1, Ne.symm k5.2]
                    rw [ifB_false t5, bn13_get]
                    cases hb : bnd S P k with
                    | none =>
                      rw [hb] at h
                      simp
                      exact h
                    | some mm =>
                      rw [hb] at h
                      simp [is_below_ok hx]
                      exact h) _ _
/-- the law's own reader of whole codes -/
theorem law_is_right_ok {S : Sz} {z w m : Nat} {d : MV} (hS : S.ok) (hd : Db z w m d) (hz : z ≤ 4000) (hm : m < 61) :
    wp (run tab (n + 4) f__law_is_right [d, S.tp] M) Q E = Q (.bl (codeB S d)) M := wp_of (run_of fun Q E h => by
  refine w_run rfl rfl ?_
  cases hd with
  | int _ => simp [d__law_is_right, b__law_is_right]; exact h
  | str _ _ => simp [d__law_is_right, b__law_is_right]; exact h
  | @tup m l hl hall =>
    have e : codeB S (.tup l) = (decide (1 ≤ l.length) && (decide (l.length ≤ 400) && l.all (okRow S l.length))) := rfl
    rw [e] at h
    simp [d__law_is_right, b__law_is_right]
    by_cases q1 : 1 ≤ l.length
    · rw [decide_eq_true q1, Bool.true_and] at h
      rw [ifB_false (by simp; omega)]
      by_cases q2 : l.length ≤ 400
      · rw [decide_eq_true q2, Bool.true_and] at h
        rw [ifB_false (by simp; omega)]
        simp [wipeE]
        refine w_lcM (fun d => .bl (okRow S l.length d)) wk_T (by rw [SL_eq]; omega) (fun d hd => ?_) ?_
        · simp [law_is_row_ok hS (hall d hd) hz (by omega)]
        · rw [boolsOf_map, rdO_some]
          have e : (l.map (okRow S l.length)).all id = l.all (okRow S l.length) := by rw [List.all_map]; rfl
          rw [e]
          simp
          exact h
      · rw [decide_eq_false q2, Bool.false_and] at h
        rw [ifB_true (by simp; omega)]
        exact h
    · rw [decide_eq_false q1, Bool.false_and] at h
      rw [ifB_true (by simp; omega)]
      exact h) _ _
end
end K09
set_option maxRecDepth 100000
namespace K09
open Mi TL
theorem cut_m1 {α : Type} (l : List α) : cut l none (some (-1)) = l.dropLast := by
  unfold cut
  simp only [HT.sIx]
  rw [List.dropLast_eq_take]
  cases l with
  | nil => rfl
  | cons a l =>
    simp
    omega
/-! ### rows and their texts -/
inductive Rw where
  | op (k : Tx) (ns : List Int)
  | call (f : Int) (ns : List Int)
def Rw.k : Rw → Tx
  | .op k _ => k
  | .call _ _ => k_call
def Rw.ns : Rw → List Int
  | .op _ ns => ns
  | .call f ns => f :: ns
def Rw.mv : Rw → MV
  | .op k ns => .tup (.str k :: ns.map MV.int)
  | .call f ns => .tup [.str k_call, .int f, .tup (ns.map MV.int)]
def Rw.tx (r : Rw) : Tx := joinT [32] (r.k :: r.ns.map numT)
def codeT (rs : List Rw) : Tx := (rs.map fun r => r.tx ++ [10]).flatten
structure Rw.fine (r : Rw) : Prop where
  few : r.ns.length ≤ 20
  small : ∀ i ∈ r.ns, i.natAbs < 10 ^ 18
  kl : r.k.length ≤ 10
  op : ∀ k ns, r = .op k ns → k ≠ k_call
theorem numT_len {i : Int} (h : i.natAbs < 10 ^ 18) : (numT i).length ≤ 19 ∧ (numL i.natAbs).length ≤ 600 ∧ i.natAbs.log2 < 1920 := by
  have h1 := TL.numL_len (k := 18) (by decide) h
  refine ⟨?_, by omega, log2_64 (by omega)⟩
  unfold numT
  split
  · rw [List.length_cons]; omega
  · omega
theorem joinT_len : ∀ (ps : List Tx), (joinT [32] ps).length ≤ (ps.map List.length).sum + ps.length
  | [] => by simp [joinT]
  | [p] => by simp [joinT]
  | p :: q :: ps => by
    have e : joinT [32] (p :: q :: ps) = p ++ 32 :: joinT [32] (q :: ps) := rfl
    have := joinT_len (q :: ps)
    rw [e]
    simp only [List.map_cons, List.sum_cons, List.length_append, List.length_cons] at this ⊢
    omega
theorem sum_le : ∀ {l : List Int}, (∀ i ∈ l, i.natAbs < 10 ^ 18) → ((l.map numT).map List.length).sum ≤ 19 * l.length
  | [], _ => by simp
  | i :: l, h => by
    have h1 := (numT_len (h i List.mem_cons_self)).1
    have h2 := sum_le fun j hj => h j (List.mem_cons_of_mem _ hj)
    simp only [List.map_cons, List.sum_cons, List.length_cons]
    omega
theorem Rw.tx_len {r : Rw} (h : r.fine) : r.tx.length ≤ 500 := by
  have h1 := joinT_len (r.k :: r.ns.map numT)
  have h2 := sum_le h.small
  have h3 := h.few
  have h4 := h.kl
  unfold Rw.tx
  simp only [List.map_cons, List.sum_cons, List.length_cons, List.length_map] at h1
  omega
section
variable {n : Nat} {M : Hm} {Q : MV → Hm → Prop} {E : MX → Hm → Prop}
theorem strs_of (ts : List Tx) : textsOf (ts.map MV.str) = some ts := texts_str ts
theorem join_tail {t1 t2 : List Tx} {E1 : Hm → MX → Hm → Prop} {E2 : MX → Hm → Prop} (hc : t1.length + t2.length ≤ 1000) (hl : ((t1 ++ t2).map List.length).sum ≤ 10000) {R : MV → Hm → Prop} (h : R (.str (joinT [32] (t1 ++ t2))) M) :
    wp (fAdd (.ref M.length) (.ref (M ++ [MO.lst (t1.map MV.str)]).length) (M ++ [MO.lst (t1.map MV.str)] ++ [MO.lst (t2.map MV.str)]))
      (fun x M1 => wp (fJoin (.str [32]) [x] M1) (fun d M' => gcQ M M' d R) (E1 M1)) E2 := by
  have g1 : (M ++ [MO.lst (t1.map MV.str)] ++ [MO.lst (t2.map MV.str)])[M.length]? = some (.lst (t1.map MV.str)) := by simp
  have g2 : (M ++ [MO.lst (t1.map MV.str)] ++ [MO.lst (t2.map MV.str)])[(M ++ [MO.lst (t1.map MV.str)]).length]? = some (.lst (t2.map MV.str)) := get_last
  rw [w_addL g1 g2]
  refine ⟨by rw [List.length_map, List.length_map, SL_eq]; omega, ?_⟩
  have ht : textsOf (t1.map MV.str ++ t2.map MV.str) = some (t1 ++ t2) := by rw [← List.map_append]; exact texts_str _
  rw [w_join, rdL_last, rdO_of ht]
  refine ⟨?_, ?_⟩
  · rw [List.length_append, SL_eq]
    have hl' : ((t1 ++ t2).map (fun x => x.length)).sum ≤ 10000 := hl
    show _ + (t1.length + t2.length) * 1 ≤ _
    omega
  · rw [List.append_assoc, List.append_assoc, gcQ_app rfl]
    exact h
theorem row_text_ok {r : Rw} (hr : r.fine) (h : Q (.str r.tx) M) : wp (run tab (n + 3) f_row_text [r.mv] M) Q E := by
  refine w_run rfl rfl ?_
  have hlen := r.tx_len hr
  have hs := sum_le hr.small
  have hf := hr.few
  have hkl := hr.kl
  cases r with
  | op k ns =>
    have hf : ns.length ≤ 20 := hf
    have hs : ((ns.map numT).map List.length).sum ≤ 19 * ns.length := hs
    have hkl : k.length ≤ 10 := hkl
    have hk := hr.op k ns rfl
    have hc : cut (MV.str k :: ns.map MV.int) (some 1) none = ns.map MV.int := cut_from _ 1
    have hlr : (ns.map MV.int).length = ns.length := by simp
    simp [d_row_text, b_row_text, Rw.mv, hk, hc, wipeE]
    have key := fun {Ql} {E} {ee} {env} {M : Hm} (hs) (h) => w_lcM (Ql := Ql) (E := E) (M := M) (e := ee) (env := env) (g := gN 2) (ni := nT (ns.map MV.int)) (l := ns.map MV.int) (fun d => match d with | .int i => .str (numT i) | d => d) wk_T (by rw [hlr, SL_eq]; omega) hs h
    rw [hlr] at key
    refine key (fun d hd => ?_) ?_
    · obtain ⟨i, hi, rfl⟩ := List.mem_map.mp hd
      simp
      exact write_integer_ok (numT_len (hr.small i hi)).2.1 ⟨rfl, rfl⟩
    · have e1 : (ns.map MV.int).map (fun d => match d with | .int i => .str (numT i) | d => d) = (ns.map numT).map MV.str := by rw [List.map_map, List.map_map]; rfl
      rw [e1]
      refine join_tail (t1 := [k]) (E1 := fun M1 x M' => gcE M M' x fun x M1 => gcE M M1 x E) (by simp; omega) ?_ (by rw [gcQ_rfl]; exact h)
      rw [List.map_append, List.sum_append]
      simp only [List.map_cons, List.map_nil, List.sum_cons, List.sum_nil]
      omega
  | call f ns =>
    have hf : ns.length + 1 ≤ 20 := hf
    have hs : (((f :: ns).map numT).map List.length).sum ≤ 19 * (f :: ns).length := hs
    have hlr : (ns.map MV.int).length = ns.length := by simp
    simp [d_row_text, b_row_text, Rw.mv, wipeE]
    refine write_integer_ok (numT_len (hr.small f (by simp [Rw.ns]))).2.1 ?_
    have key := fun {Ql} {E} {ee} {env} {M : Hm} (hs) (h) => w_lcM (Ql := Ql) (E := E) (M := M) (e := ee) (env := env) (g := gN 1) (ni := nT (ns.map MV.int)) (l := ns.map MV.int) (fun d => match d with | .int i => .str (numT i) | d => d) wk_T (by rw [hlr, SL_eq]; omega) hs h
    rw [hlr] at key
    refine key (fun d hd => ?_) ?_
    · obtain ⟨i, hi, rfl⟩ := List.mem_map.mp hd
      simp
      exact write_integer_ok (numT_len (hr.small i (by simp [Rw.ns, hi]))).2.1 ⟨rfl, rfl⟩
    · have e1 : (ns.map MV.int).map (fun d => match d with | .int i => .str (numT i) | d => d) = (ns.map numT).map MV.str := by rw [List.map_map, List.map_map]; rfl
      rw [e1]
      refine join_tail (t1 := [k_call, numT f]) (E1 := fun M1 x M' => gcE M M' x fun x M1 => gcE M M1 x E) (by simp; omega) ?_ (by rw [gcQ_rfl]; exact h)
      rw [List.map_append, List.sum_append]
      simp only [List.map_cons, List.map_nil, List.sum_cons, List.sum_nil, List.length_cons, List.length_nil] at hs ⊢
      omega
theorem law_row_text_ok {r : Rw} (hr : r.fine) (h : Q (.str r.tx) M) : wp (run tab (n + 3) f__law_row_text [r.mv] M) Q E := by
  refine w_run rfl rfl ?_
  have hlen := r.tx_len hr
  have hs := sum_le hr.small
  have hf := hr.few
  have hkl := hr.kl
  cases r with
  | op k ns =>
    have hf : ns.length ≤ 20 := hf
    have hs : ((ns.map numT).map List.length).sum ≤ 19 * ns.length := hs
    have hkl : k.length ≤ 10 := hkl
    have hk := hr.op k ns rfl
    have hc : cut (MV.str k :: ns.map MV.int) (some 1) none = ns.map MV.int := cut_from _ 1
    have hlr : (ns.map MV.int).length = ns.length := by simp
    simp [d__law_row_text, b__law_row_text, Rw.mv, hk, hc, wipeE]
    have key := fun {Ql} {E} {ee} {env} {M : Hm} {j : Nat} (hw) (hs) (h) => w_lcM (Ql := Ql) (E := E) (M := M) (e := ee) (env := env) (g := gN 2) (ni := nL j) (l := ns.map MV.int) (fun d => match d with | .int i => .str (numT i) | d => d) hw (by rw [hlr, SL_eq]; omega) hs h
    rw [hlr] at key
    have a1 : M ++ [MO.lst (ns.map MV.int), MO.lst [MV.str k]] = (M ++ [MO.lst (ns.map MV.int)]) ++ [MO.lst ([k].map MV.str)] := by simp
    have a2 : M.length + 1 = (M ++ [MO.lst (ns.map MV.int)]).length := by simp
    refine key (wk_L (by rw [get_app0]; rfl)) (fun d hd => ?_) ?_
    · obtain ⟨i, hi, rfl⟩ := List.mem_map.mp hd
      simp
      exact (numT_len (hr.small i hi)).2.2
    · have e1 : (ns.map MV.int).map (fun d => match d with | .int i => .str (numT i) | d => d) = (ns.map numT).map MV.str := by rw [List.map_map, List.map_map]; rfl
      rw [e1, a1, a2]
      refine join_tail (t1 := [k]) (E1 := fun M1 x M' => gcE (M ++ [MO.lst (ns.map MV.int)]) M' x fun x M1 => gcE M M1 x E) (by simp; omega) ?_ (by rw [gcQ_app rfl]; exact h)
      rw [List.map_append, List.sum_append]
      simp only [List.map_cons, List.map_nil, List.sum_cons, List.sum_nil]
      omega
  | call f ns =>
    have hf : ns.length + 1 ≤ 20 := hf
    have hs : (((f :: ns).map numT).map List.length).sum ≤ 19 * (f :: ns).length := hs
    have hlr : (ns.map MV.int).length = ns.length := by simp
    have hc : cut [MV.str k_call, MV.int f, MV.tup (ns.map MV.int)] (some 1) none = [MV.int f, MV.tup (ns.map MV.int)] := cut_from _ 1
    simp [d__law_row_text, b__law_row_text, Rw.mv, hc, wipeE]
    have g1 : (M ++ [MO.lst [MV.int f, MV.tup (ns.map MV.int)], MO.lst [MV.int f], MO.lst (ns.map MV.int)])[M.length + 1]? = some (.lst [MV.int f]) := by rw [get_app]; rfl
    have g2 : (M ++ [MO.lst [MV.int f, MV.tup (ns.map MV.int)], MO.lst [MV.int f], MO.lst (ns.map MV.int)])[M.length + 1 + 1]? = some (.lst (ns.map MV.int)) := by rw [show M.length + 1 + 1 = M.length + 2 by omega, get_app]; rfl
    rw [w_addL g1 g2]
    refine ⟨by simp; omega, ?_⟩
    obtain ⟨N, hN⟩ : ∃ N, N = M ++ [MO.lst [MV.int f, MV.tup (ns.map MV.int)], MO.lst [MV.int f], MO.lst (ns.map MV.int)] ++ [MO.lst ([MV.int f] ++ ns.map MV.int)] := ⟨_, rfl⟩
    rw [← hN]
    have hg : N[(M ++ [MO.lst [MV.int f, MV.tup (ns.map MV.int)], MO.lst [MV.int f], MO.lst (ns.map MV.int)]).length]? = some (.lst ([MV.int f] ++ ns.map MV.int)) := by rw [hN]; exact get_last
    have hl2 : ([MV.int f] ++ ns.map MV.int).length = ns.length + 1 := by simp
    rw [rdIt_ref, rdL_old hg]
    refine w_lcM (l := [MV.int f] ++ ns.map MV.int) (fun d => match d with | .int i => .str (numT i) | d => d) (wk_L (get_old hg)) (by rw [hl2, SL_eq]; omega) (fun d hd => ?_) ?_
    · have hd : d ∈ (f :: ns).map MV.int := hd
      obtain ⟨i, hi, rfl⟩ := List.mem_map.mp hd
      simp
      exact (numT_len (hr.small i hi)).2.2
    · have e1 : ([MV.int f] ++ ns.map MV.int).map (fun d => match d with | .int i => .str (numT i) | d => d) = ((f :: ns).map numT).map MV.str := by
        show ((f :: ns).map MV.int).map _ = _
        rw [List.map_map, List.map_map]; rfl
      rw [e1]
      refine join_tail (t1 := [k_call]) (E1 := fun M1 x M' => gcE N M' x fun x M1 => gcE M M1 x E) (by simp; omega) ?_ ?_
      · rw [List.map_append, List.sum_append]
        simp only [List.map_cons, List.map_nil, List.sum_cons, List.sum_nil, List.length_cons, List.length_nil] at hs ⊢
        omega
      · rw [hN, List.append_assoc, gcQ_app rfl]
        exact h
end
end K09
set_option maxRecDepth 100000
namespace K09
open Mi TL
section
variable {n : Nat} {M : Hm} {Q : MV → Hm → Prop} {E : MX → Hm → Prop}
theorem txs_sum : ∀ {rs : List Rw}, (∀ r ∈ rs, r.fine) → ((rs.map fun r => r.tx ++ [10]).map fun x => x.length).sum ≤ 501 * rs.length
  | [], _ => by simp
  | r :: rs, h => by
    have h1 := Rw.tx_len (h r List.mem_cons_self)
    have h2 := txs_sum fun x hx => h x (List.mem_cons_of_mem _ hx)
    simp only [List.map_cons, List.sum_cons, List.length_append, List.length_cons, List.length_nil] at h2 ⊢
    omega
def rwF : MV → Rw
  | .tup [.str k, .int f, .tup l] => .call f ((intsOf l).getD [])
  | .tup (.str k :: l) => .op k ((intsOf l).getD [])
  | _ => .op [] []
theorem rwF_mv {r : Rw} (h : r.fine) : rwF r.mv = r := by
  cases r with
  | call f ns =>
    show Rw.call f ((intsOf (ns.map MV.int)).getD []) = _
    rw [intsOf_map]
    rfl
  | op k ns =>
    have e : rwF (.tup (.str k :: ns.map MV.int)) = .op k ((intsOf (ns.map MV.int)).getD []) := by
      match ns with
      | [] => rfl
      | [a] => rfl
      | [a, b] => rfl
      | a :: b :: c :: d => rfl
    show rwF (.tup (.str k :: ns.map MV.int)) = _
    rw [e, intsOf_map]
    rfl
theorem write_code_ok {rs : List Rw} (hl : rs.length ≤ 500) (hr : ∀ r ∈ rs, r.fine) (h : Q (.str (codeT rs)) M) : wp (run tab (n + 4) f_write_code [.tup (rs.map Rw.mv)] M) Q E := by
  refine w_run rfl rfl ?_
  simp [d_write_code, b_write_code, wipeE]
  have hlr : (rs.map Rw.mv).length = rs.length := by simp
  have key := fun {Ql} {E} {ee} {env} {M : Hm} (hs) (h) => w_lcM (Ql := Ql) (E := E) (M := M) (e := ee) (env := env) (g := gN 1) (ni := nT (rs.map Rw.mv)) (l := rs.map Rw.mv) (fun d => .str ((rwF d).tx ++ [10])) wk_T (by rw [hlr, SL_eq]; omega) hs h
  rw [hlr] at key
  refine key (fun d hd => ?_) ?_
  · obtain ⟨r, hi, rfl⟩ := List.mem_map.mp hd
    have := Rw.tx_len (hr r hi)
    simp
    refine row_text_ok (hr r hi) ?_
    rw [rwF_mv (hr r hi)]
    simp
    omega
  · have e1 : (rs.map Rw.mv).map (fun d => .str ((rwF d).tx ++ [10])) = (rs.map fun r => r.tx ++ [10]).map MV.str := by
      rw [List.map_map, List.map_map]
      refine List.map_congr_left fun r hm => ?_
      show MV.str _ = MV.str _
      rw [rwF_mv (hr r hm)]
    rw [e1]
    have e2 := texts_str (rs.map fun r => r.tx ++ [10])
    rw [List.map_map] at e2
    simp
    rw [rdO_of e2, joinT_nil]
    exact ⟨Nat.le_trans (txs_sum hr) (by omega), h⟩
/-! ### read -/
def okB (s : Tx) : Bool := !decide (digs s = []) && (!(decide ((digs s)[0]? = some 48) && !decide (s = [48])) && allDig (digs s))
theorem okB_iff {s : Tx} : okB s = true ↔ okI s := by
  unfold okB okI
  rw [Bool.and_eq_true, Bool.and_eq_true, allDig_iff]
  simp
  intro _ _
  by_cases q : (digs s)[0]? = some 48 <;> simp [q]
def readI (s : Tx) : Option Int := if okB s then some (valI s) else none
def kindOf (w : Tx) : Tx := match d_KINDS_.lookup w with
  | some (.str s) => s
  | _ => [110, 111, 110, 101]
def manyOf (k : Tx) : Nat := if k = [] then 0 else if k = [110, 117, 109, 98, 101, 114] then 2 else 1
def readRow (line : Tx) : Option MV := match splT 32 line with
  | [] => none
  | w :: ws => match ws.mapM readI with
    | none => none
    | some ns => if kindOf w = k_call then (match ns with
        | [] => none
        | f :: r => some (.tup [.str k_call, .int f, .tup (r.map MV.int)]))
      else if kindOf w = [110, 111, 110, 101] ∨ ns.length ≠ manyOf (kindOf w) then none
      else some (.tup (.str w :: ns.map MV.int))
def readCode (t : Tx) : Option MV := if t = [] ∨ t[t.length - 1]? ≠ some 10 then none else ((splT 10 t).dropLast.mapM readRow).map MV.tup
theorem splT_len (c : Nat) : ∀ x : Tx, (splT c x).length ≤ x.length + 1 ∧ ∀ p ∈ splT c x, p.length ≤ x.length
  | [] => by simp [splT]
  | a :: r => by
    obtain ⟨h1, h2⟩ := splT_len c r
    unfold splT
    split
    · simp only [List.length_cons]
      refine ⟨by omega, fun p hp => ?_⟩
      rcases List.mem_cons.mp hp with q | q
      · rw [q]; simp
      · have := h2 p q; omega
    · cases h : splT c r with
      | nil => exact absurd h (splT_ne c r)
      | cons q qs =>
        rw [h] at h1 h2
        simp only [List.length_cons] at h1 ⊢
        refine ⟨by omega, fun p hp => ?_⟩
        rcases List.mem_cons.mp hp with e | e
        · have := h2 q List.mem_cons_self
          rw [e, List.length_cons]
          omega
        · have := h2 p (List.mem_cons_of_mem _ e)
          omega
theorem kind_get (w : Tx) : (d_KINDS_.lookup w).getD (.str [110, 111, 110, 101]) = .str (kindOf w) := by
  unfold kindOf
  cases h : d_KINDS_.lookup w with
  | none => rfl
  | some d =>
    have : ∀ l : List (Tx × MV), (∀ p ∈ l, ∃ s, p.2 = .str s) → ∀ d, l.lookup w = some d → ∃ s, d = .str s := by
      intro l
      induction l with
      | nil => intro _ d h; cases h
      | cons p l ih =>
        intro q d h
        obtain ⟨a, b⟩ := p
        rw [List.lookup_cons] at h
        split at h
        · cases h
          exact q _ List.mem_cons_self
        · exact ih (fun x hx => q x (List.mem_cons_of_mem _ hx)) d h
    obtain ⟨s, rfl⟩ := this d_KINDS_ (by
      intro p hp
      simp only [d_KINDS_, List.mem_cons, List.not_mem_nil, or_false] at hp
      rcases hp with e | e | e | e | e | e | e | e | e | e | e | e | e | e | e | e | e | e | e | e | e | e | e | e <;> subst e <;> exact ⟨_, rfl⟩) d h
    rfl
theorem many_get (k : Tx) : (d_MANY_.lookup k).getD (.int 1) = .int (manyOf k) := by
  unfold manyOf
  by_cases h : k = []
  · subst h; rfl
  · by_cases h2 : k = [110, 117, 109, 98, 101, 114]
    · subst h2; rfl
    · rw [if_neg h, if_neg h2]
      unfold d_MANY_
      rw [List.lookup_cons, beq_eq_false_iff_ne.mpr h, List.lookup_cons, beq_eq_false_iff_ne.mpr h2]
      rfl
end
end K09
set_option maxRecDepth 100000
namespace K09
open Mi TL
section
variable {n : Nat} {M : Hm} {Q : MV → Hm → Prop} {E : MX → Hm → Prop}
def rdF1 : MV → Option MV
  | .str s => (readI s).map MV.int
  | _ => none
theorem rdF1_all {ws : List Tx} : (ws.map MV.str).mapM rdF1 = (ws.mapM readI).map fun ns => ns.map MV.int := by
  induction ws with
  | nil => rfl
  | cons w ws ih =>
    rw [List.map_cons, List.mapM_cons, List.mapM_cons, ih]
    show ((readI w).map MV.int).bind _ = _
    cases readI w with
    | none => rfl
    | some i => cases ws.mapM readI <;> rfl
theorem read_int_ok {s : Tx} (hl : s.length ≤ 200000) (h1 : ∀ i, readI s = some i → Q (.int i) M) (h2 : readI s = none → E ⟨x_BadText, none⟩ M) : wp (run tab (n + 1) f_read_integer [.str s] M) Q E :=
  read_integer_ok hl (fun q => h1 _ (by unfold readI; rw [if_pos (okB_iff.mpr q)])) (fun q => h2 (by unfold readI; rw [if_neg fun z => q (okB_iff.mp z)]))
open PySem in
theorem eq_lnil {i j : Nat} {ns : List Int} (hi : M[i]? = some (.lst (ns.map MV.int))) (hj : M[j]? = some (.lst [])) : eqM M (.ref i) (.ref j) = some ns.isEmpty := by
  have e1 : ∀ ms : List Int, (ms.map MV.int).mapM (pyD 59 M) = some (ms.map PyData.int) := by
    intro ms
    induction ms with
    | nil => rfl
    | cons m ms ih =>
      rw [List.map_cons, List.mapM_cons, ih]
      rfl
  have p1 : pyD 60 M (.ref i) = some (.list (ns.map PyData.int)) := by
    show (match M[i]? with | some (.lst l) => (l.mapM (pyD 59 M)).map PyData.list | _ => none) = _
    rw [hi]
    show ((ns.map MV.int).mapM (pyD 59 M)).map PyData.list = _
    rw [e1]
    rfl
  have p2 : pyD 60 M (.ref j) = some (.list []) := by
    show (match M[j]? with | some (.lst l) => (l.mapM (pyD 59 M)).map PyData.list | _ => none) = _
    rw [hj]
    rfl
  have c1 : PyData.canLayAll0 (ns.map PyData.int) = true ∧ PyData.depthAll (ns.map PyData.int) = 0 := by
    clear p1 hi e1
    induction ns with
    | nil => exact ⟨rfl, rfl⟩
    | cons m ms ih =>
      rw [List.map_cons]
      simp only [PyData.canLayAll0, PyData.depthAll, ih, PyData.canLay0, PyData.depth]
      exact ⟨rfl, rfl⟩
  have s1 : SeqAt.shaped (.list (ns.map PyData.int)) = true := by
    unfold SeqAt.shaped
    simp only [PyData.canLay0, PyData.depth, c1]
    rfl
  have s2 : SeqAt.shaped (.list []) = true := by decide
  show eqD M _ _ = _
  unfold eqD
  rw [p1, p2]
  simp only [s1, s2, Bool.and_self, if_true]
  cases ns <;> rfl
theorem read_row_ok {line : Tx} (hl : line.length ≤ 200000) (h1 : ∀ v, readRow line = some v → Q v M) (h2 : readRow line = none → E ⟨x_BadText, none⟩ M) : wp (run tab (n + 2) f_read_row [.str line] M) Q E := by
  refine w_run rfl rfl ?_
  obtain ⟨hs1, hs2⟩ := splT_len 32 line
  unfold readRow at h1 h2
  cases hsp : splT 32 line with
  | nil => exact absurd hsp (splT_ne _ _)
  | cons w ws =>
    rw [hsp] at h1 h2 hs1 hs2
    simp only at h1 h2
    have hc : cut (MV.str w :: ws.map MV.str) (some 1) none = ws.map MV.str := cut_from _ 1
    simp [d_read_row, b_read_row, hsp, wipeE, hc, kind_get]
    refine ⟨by omega, ?_⟩
    have hlr : (ws.map MV.str).length = ws.length := by simp
    simp only [List.length_cons] at hs1
    have key := fun {Ql} {E} {ee} {env} {M : Hm} {j : Nat} (hw) (hs) (q1) (q2) => w_lcXM (Ql := Ql) (E := E) (M := M) (e := ee) (env := env) (g := gN 4) (ni := nL j) (l := ws.map MV.str) (x := ⟨x_BadText, none⟩) rdF1 hw (by rw [hlr, SL_eq]; omega) hs q1 q2 (m := ws.length + 1) (by rw [hlr])
    refine key (wk_L (by rw [get_app]; rfl)) (fun d hd => ?_) (fun ys hy => ?_) fun hy => ?_
    · obtain ⟨s, hi, rfl⟩ := List.mem_map.mp hd
      have := hs2 s (List.mem_cons_of_mem _ hi)
      simp
      refine read_int_ok (by omega) (fun i hi => ?_) fun hi => ?_
      · refine ⟨?_, rfl⟩
        show (readI s).map MV.int = _
        rw [hi]
        rfl
      · refine ⟨?_, rfl, rfl⟩
        show (readI s).map MV.int = _
        rw [hi]
        rfl
    · rw [rdF1_all] at hy
      obtain ⟨ns, hns, rfl⟩ := Option.map_eq_some_iff.mp hy
      rw [hns] at h1 h2
      simp only at h1 h2
      by_cases k1 : kindOf w = k_call
      · rw [ifB_true (decide_eq_true k1)]
        rw [if_pos k1] at h1 h2
        have g1 : ∀ (A B : MO), (M ++ [MO.lst (MV.str w :: ws.map MV.str), MO.lst (ws.map MV.str)] ++ [A, B])[(M ++ [MO.lst (MV.str w :: ws.map MV.str), MO.lst (ws.map MV.str)]).length]? = some A := fun A B => by rw [get_app0]; rfl
        have g2 : ∀ (A B : MO), (M ++ [MO.lst (MV.str w :: ws.map MV.str), MO.lst (ws.map MV.str)] ++ [A, B])[(M ++ [MO.lst (MV.str w :: ws.map MV.str), MO.lst (ws.map MV.str)]).length + 1]? = some B := fun A B => by rw [get_app]; rfl
        rw [w_eq (eq_lnil (g1 _ _) (g2 _ _))]
        cases ns with
        | nil =>
          simp
          exact h2 rfl
        | cons f r =>
          have hc2 : cut (MV.int f :: r.map MV.int) (some 1) none = r.map MV.int := cut_from _ 1
          simp [rdL_of (g1 _ _), hc2]
          exact h1 _ rfl
      · rw [ifB_false (decide_eq_false k1)]
        rw [if_neg k1] at h1 h2
        by_cases k2 : kindOf w = [110, 111, 110, 101]
        · rw [ifB_true (decide_eq_true k2)]
          rw [if_pos (.inl k2)] at h2
          simp
          exact h2 rfl
        · rw [ifB_false (decide_eq_false k2), many_get]
          by_cases k3 : ns.length = manyOf (kindOf w)
          · rw [if_neg (by intro q; rcases q with q | q; exact k2 q; exact q k3)] at h1
            have hn : ((ns.length : Int) = (manyOf (kindOf w) : Nat)) := by rw [k3]
            have hm : manyOf (kindOf w) ≤ 2 := by unfold manyOf; split <;> first | omega | (split <;> omega)
            simp [hn]
            refine ⟨by omega, ?_⟩
            exact h1 _ rfl
          · rw [if_pos (.inr k3)] at h2
            have hn : ¬ ((ns.length : Int) = (manyOf (kindOf w) : Nat)) := by omega
            simp [hn]
            exact h2 rfl
    · rw [rdF1_all] at hy
      rw [Option.map_eq_none_iff.mp hy] at h2
      simp
      exact h2 rfl
theorem rdF2_all {ls : List Tx} : (ls.map MV.str).mapM (fun d => match d with | .str s => readRow s | _ => none) = ls.mapM readRow := by
  induction ls with
  | nil => rfl
  | cons w ws ih =>
    rw [List.map_cons, List.mapM_cons, List.mapM_cons, ih]
theorem pu_ints {ns : List Int} : ∀ d ∈ ns.map MV.int, Pu d := fun d hd => by
  obtain ⟨i, _, rfl⟩ := List.mem_map.mp hd
  exact pu_int
theorem readRow_pu {t : Tx} {v : MV} (h : readRow t = some v) : Pu v := by
  unfold readRow at h
  split at h
  · cases h
  · split at h
    · cases h
    · split at h
      · split at h
        · cases h
        · cases h
          refine Pu.tup fun d hd => ?_
          simp only [List.mem_cons, List.not_mem_nil, or_false] at hd
          rcases hd with e | e | e <;> subst e
          · exact pu_str
          · exact pu_int
          · exact Pu.tup pu_ints
      · split at h
        · cases h
        · cases h
          refine Pu.tup fun d hd => ?_
          rcases List.mem_cons.mp hd with e | e
          · subst e; exact pu_str
          · exact pu_ints d e
theorem mapM_mem {α β : Type} {f : α → Option β} {P : β → Prop} (hf : ∀ a b, f a = some b → P b) : ∀ {l : List α} {ys : List β}, l.mapM f = some ys → ∀ y ∈ ys, P y
  | [], ys, h => by cases h; simp
  | a :: l, ys, h => by
    rw [List.mapM_cons] at h
    cases h1 : f a with
    | none => rw [h1] at h; cases h
    | some b =>
      cases h2 : l.mapM f with
      | none => rw [h1, h2] at h; cases h
      | some zs =>
        rw [h1, h2] at h
        cases h
        intro y hy
        rcases List.mem_cons.mp hy with e | e
        · rw [e]; exact hf a b h1
        · exact mapM_mem hf h2 y e
theorem read_code_ok {t : Tx} (hl : t.length ≤ 200000) (h1 : ∀ v, readCode t = some v → Q v M) (h2 : readCode t = none → E ⟨x_BadText, none⟩ M) : wp (run tab (n + 3) f_read_code [.str t] M) Q E := by
  refine w_run rfl rfl ?_
  obtain ⟨hs1, hs2⟩ := splT_len 10 t
  unfold readCode at h1 h2
  by_cases k0 : t = []
  · rw [if_pos (.inl k0)] at h2
    simp [d_read_code, b_read_code, k0]
    exact h2 rfl
  · have hp : 0 < t.length := List.length_pos_iff.mpr k0
    obtain ⟨c, hc⟩ : ∃ c, t[t.length - 1]? = some c := ⟨_, List.getElem?_eq_getElem (by omega)⟩
    by_cases k1 : c = 10
    · rw [if_neg (by intro q; rcases q with q | q; exact k0 q; exact q (by rw [hc, k1]))] at h1 h2
      have hcut := cut_m1 ((splT 10 t).map MV.str)
      rw [← List.map_dropLast] at hcut
      simp [d_read_code, b_read_code, k0, hc, k1, wipeE, hcut]
      refine ⟨by omega, by omega, ?_⟩
      have hdl : ((splT 10 t).dropLast.map MV.str).length = (splT 10 t).length - 1 := by simp
      rw [← List.map_dropLast]
      refine w_lcXM (M := M ++ [MO.lst (List.map MV.str (splT 10 t)), MO.lst (List.map MV.str (splT 10 t).dropLast)]) (l := (splT 10 t).dropLast.map MV.str) (x := ⟨x_BadText, none⟩) (fun d => match d with | .str s => readRow s | _ => none) (wk_L (by rw [get_app]; rfl)) (by rw [hdl, SL_eq]; omega) (fun d hd => ?_) (fun ys hy => ?_) (fun hy => ?_) (m := (splT 10 t).length - 1 + 1) (by rw [hdl])
      · obtain ⟨s, hi, rfl⟩ := List.mem_map.mp hd
        have := hs2 s ((List.dropLast_sublist _).subset hi)
        simp
        exact read_row_ok (by omega) (fun v hv => ⟨hv, rfl⟩) fun hv => ⟨hv, rfl, rfl⟩
      · rw [rdF2_all] at hy
        rw [hy] at h1
        have hp : Pu (.tup ys) := Pu.tup (mapM_mem (fun a b => readRow_pu) hy)
        rw [List.append_assoc, gcQ_app (hp.rf _), gcQ_rfl]
        exact h1 _ rfl
      · rw [rdF2_all] at hy
        rw [hy] at h2
        simp
        exact h2 rfl
    · rw [if_pos (.inr (by rw [hc]; intro z; exact k1 (Option.some.inj z)))] at h2
      simp [d_read_code, b_read_code, k0, hc, k1]
      exact ⟨by omega, h2 rfl⟩
end
end K09
set_option maxRecDepth 100000
namespace K09
open Mi TL
/-! ### what is written is read -/
structure Rw.good (r : Rw) : Prop extends r.fine where
  free : ∀ c ∈ r.k, c ≠ 32 ∧ c ≠ 10 ∧ c < 1114112
  kind : ∀ k ns, r = .op k ns → kindOf k ≠ k_call ∧ kindOf k ≠ [110, 111, 110, 101] ∧ ns.length = manyOf (kindOf k)
theorem numT_free {i : Int} : ∀ c ∈ numT i, c ≠ 32 ∧ c ≠ 10 ∧ c < 1114112 := by
  have h2 : ∀ c ∈ numL i.natAbs, 48 ≤ c ∧ c ≤ 57 := TL.numL_digits i.natAbs
  intro c hc
  unfold numT at hc
  split at hc
  · rcases List.mem_cons.mp hc with q | q
    · omega
    · have := h2 c q; omega
  · have := h2 c hc; omega
theorem readI_all (ns : List Int) : (ns.map numT).mapM readI = some ns := by
  induction ns with
  | nil => rfl
  | cons i ns ih =>
    rw [List.map_cons, List.mapM_cons, ih]
    have : readI (numT i) = some i := by
      unfold readI
      rw [if_pos (okB_iff.mpr (numT_ok i)), numT_val]
    rw [this]
    rfl
theorem row_back {r : Rw} (h : r.good) : readRow r.tx = some r.mv := by
  have hs : splT 32 r.tx = r.k :: r.ns.map numT := by
    unfold Rw.tx
    refine splT_one 32 _ (by simp) fun p hp => ?_
    rcases List.mem_cons.mp hp with e | e
    · rw [e]
      exact fun z => (h.free 32 z).1 rfl
    · obtain ⟨i, _, rfl⟩ := List.mem_map.mp e
      exact fun z => (numT_free 32 z).1 rfl
  unfold readRow
  rw [hs]
  simp only [readI_all]
  cases r with
  | call f ns =>
    show (if kindOf k_call = k_call then _ else _) = _
    rw [if_pos (by decide)]
    rfl
  | op k ns =>
    obtain ⟨q1, q2, q3⟩ := h.kind k ns rfl
    show (if kindOf k = k_call then _ else if kindOf k = [110, 111, 110, 101] ∨ ns.length ≠ manyOf (kindOf k) then _ else _) = _
    rw [if_neg q1, if_neg (by intro q; rcases q with q | q; exact q2 q; exact q q3)]
    rfl
theorem tx_free {r : Rw} (h : r.good) : 10 ∉ r.tx := by
  have key : ∀ ps : List Tx, (∀ p ∈ ps, 10 ∉ p) → 10 ∉ joinT [32] ps := by
    intro ps
    induction ps with
    | nil => intro _ h; cases h
    | cons p ps ih =>
      intro q
      cases ps with
      | nil => exact q p List.mem_cons_self
      | cons p2 ps =>
        have e : joinT [32] (p :: p2 :: ps) = p ++ 32 :: joinT [32] (p2 :: ps) := rfl
        rw [e]
        intro z
        rcases List.mem_append.mp z with z | z
        · exact q p List.mem_cons_self z
        · rcases List.mem_cons.mp z with z | z
          · cases z
          · exact ih (fun x hx => q x (List.mem_cons_of_mem _ hx)) z
  refine key _ fun p hp => ?_
  rcases List.mem_cons.mp hp with e | e
  · rw [e]
    exact fun z => (h.free 10 z).2.1 rfl
  · obtain ⟨i, _, rfl⟩ := List.mem_map.mp e
    exact fun z => (numT_free 10 z).2.1 rfl
theorem code_split : ∀ {rs : List Rw}, (∀ r ∈ rs, r.good) → splT 10 (codeT rs) = rs.map Rw.tx ++ [[]]
  | [], _ => rfl
  | r :: rs, h => by
    have e : codeT (r :: rs) = r.tx ++ 10 :: codeT rs := by
      unfold codeT
      rw [List.map_cons, List.flatten_cons, List.append_assoc]
      rfl
    rw [e, splT_app 10 _ r.tx (tx_free (h r List.mem_cons_self)), code_split fun x hx => h x (List.mem_cons_of_mem _ hx)]
    rfl
theorem code_last : ∀ {rs : List Rw}, rs ≠ [] → ∃ t, codeT rs = t ++ [10]
  | [], h => absurd rfl h
  | [r], _ => ⟨r.tx, by unfold codeT; simp⟩
  | r :: q :: rs, _ => by
    obtain ⟨t, ht⟩ := code_last (rs := q :: rs) (by simp)
    refine ⟨r.tx ++ [10] ++ t, ?_⟩
    have e : codeT (r :: q :: rs) = r.tx ++ [10] ++ codeT (q :: rs) := rfl
    rw [e, ht]
    simp
theorem code_back {rs : List Rw} (h0 : rs ≠ []) (h : ∀ r ∈ rs, r.good) : readCode (codeT rs) = some (.tup (rs.map Rw.mv)) := by
  obtain ⟨t, ht⟩ := code_last h0
  unfold readCode
  rw [if_neg, code_split h, List.dropLast_concat]
  · have : (rs.map Rw.tx).mapM readRow = some (rs.map Rw.mv) := by
      clear h0 ht
      induction rs with
      | nil => rfl
      | cons r rs ih =>
        rw [List.map_cons, List.mapM_cons, row_back (h r List.mem_cons_self), ih fun x hx => h x (List.mem_cons_of_mem _ hx)]
        rfl
    rw [this]
    rfl
  · rw [ht]
    intro q
    rcases q with q | q
    · simp at q
    · simp at q
theorem codeT_len {rs : List Rw} (h : ∀ r ∈ rs, r.fine) : (codeT rs).length ≤ 501 * rs.length := by
  have := txs_sum h
  unfold codeT
  rw [List.length_flatten]
  exact this
theorem many_le (k : Tx) : manyOf k ≤ 2 := by
  unfold manyOf
  split
  · omega
  · split <;> omega
theorem Rw.db {r : Rw} (h : r.good) : Db 20 999999999999999999 2 r.mv := by
  have hi : ∀ i ∈ r.ns, ∀ m, Db 20 999999999999999999 m (.int i) := fun i hi m => .int (by have := h.small i hi; omega)
  have hk : ∀ m, Db 20 999999999999999999 m (.str r.k) := fun m => .str (by have := h.kl; omega) fun c hc => (h.free c hc).2.2
  have hf := h.few
  cases r with
  | op k ns =>
    refine .tup (by simp; have : ns.length ≤ 20 := hf; have : ns.length = manyOf (kindOf k) := (h.kind k ns rfl).2.2; have := many_le (kindOf k); omega) fun d hd => ?_
    rcases List.mem_cons.mp hd with e | e
    · rw [e]; exact hk 1
    · obtain ⟨i, hm, rfl⟩ := List.mem_map.mp e
      exact hi i hm 1
  | call f ns =>
    have : ns.length + 1 ≤ 20 := hf
    refine .tup (by simp) fun d hd => ?_
    simp only [List.mem_cons, List.not_mem_nil, or_false] at hd
    rcases hd with e | e | e <;> subst e
    · exact hk 1
    · exact hi f (by simp [Rw.ns]) 1
    · refine .tup (by simp; omega) fun d hd => ?_
      obtain ⟨i, hm, rfl⟩ := List.mem_map.mp hd
      exact hi i (by simp [Rw.ns, hm]) 0
section
variable {z w : Nat}
theorem same_ok (hz : z ≤ 1000000) : ∀ (m : Nat) (d : MV), Db z w m d → ∀ {n : Nat} {M : Hm} {Q : MV → Hm → Prop} {E : MX → Hm → Prop}, Q (.bl true) M → wp (run tab (n + m + 2) f__law_same [d, d] M) Q E := by
  intro m
  induction m with
  | zero =>
    intro d hd n M Q E h
    refine w_run rfl rfl ?_
    cases hd with
    | int _ =>
      simp [d__law_same, b__law_same, is_int_i]
      exact h
    | str hs _ =>
      simp [d__law_same, b__law_same]
      exact h
  | succ m ih =>
    intro d hd n M Q E h
    have e0 : n + (m + 1) + 2 = (n + m + 2) + 1 := by omega
    rw [e0]
    refine w_run rfl rfl ?_
    cases hd with
    | int _ =>
      have e1 : n + m + 2 = (n + m + 1) + 1 := by omega
      rw [e1]
      simp [d__law_same, b__law_same, is_int_i]
      exact h
    | str hs _ =>
      simp [d__law_same, b__law_same]
      exact h
    | @tup _ l hl hall =>
      simp [d__law_same, b__law_same, in62_nat (n := l.length) (by omega), wipeE]
      have key := w_lcM (M := M) (E := fun x M' => gcE M M' x fun x M1 => gcE M M1 x E) (ni := nR 0 1 l.length) (g := gN 2) (e := eCall (run tab (n + m + 2)) f__law_same (aCons (eOp fIxA (eVar 0) (eVar 2)) (aCons (eOp fIxA (eVar 1) (eVar 2)) aNil))) (env := [some (MV.tup l), some (MV.tup l), none])
        (Ql := fun l M2 => rdO (boolsOf l) fun bs => gcQ M (M2 ++ [MO.lst l]) (MV.bl (bs.all id)) fun x M1 => gcQ M M1 x Q) (l := (List.range l.length).map fun k : Nat => MV.int (0 + k * 1)) (fun _ => .bl true) wk_R (by rw [List.length_map, List.length_range, SL_eq]; omega) (fun d hd => ?_) ?_
      · rw [List.length_map, List.length_range] at key
        exact key
      · obtain ⟨k, hk, rfl⟩ := List.mem_map.mp hd
        rw [List.mem_range] at hk
        have e2 : (0 + (k : Int) * 1) = (k : Int) := by omega
        rw [e2]
        simp [rdI_nat, List.getElem?_eq_getElem hk]
        exact ih _ (hall _ (List.getElem_mem hk)) ⟨rfl, rfl⟩
      · rw [boolsOf_map (p := fun _ => true)]
        have e3 : (((List.range l.length).map fun k : Nat => MV.int (0 + k * 1)).map fun _ => true).all id = true := by
          rw [List.all_map, List.all_map, List.all_eq_true]
          intro x hx
          rfl
        rw [rdO_some, e3]
        simp
        exact h
end
theorem says_ok {n : Nat} {b : Bool} {M : Hm} {Q : MV → Hm → Prop} {E : MX → Hm → Prop} (h : Q (.bl true) M) : wp (run tab (n + 1) f__law_says [.bl b, .bl b] M) Q E := by
  refine w_run rfl rfl ?_
  cases b <;> simp [d__law_says, b__law_says] <;> exact h
theorem refuses_ok {n : Nat} {t : Tx} {M : Hm} {Q : MV → Hm → Prop} {E : MX → Hm → Prop} (hl : t.length ≤ 200000) (h0 : readCode t = none) (h : Q (.bl true) M) : wp (run tab (n + 4) f__law_refuses [.str t] M) Q E := by
  refine w_run rfl rfl ?_
  simp [d__law_refuses, b__law_refuses, wS_tryN]
  refine read_code_ok hl (fun v hv => ?_) fun _ => ?_
  · rw [h0] at hv; cases hv
  · simp [sub_BadText]
    exact h
end K09
set_option maxRecDepth 100000
namespace K09
open Mi TL
def badA : List Tx := [[], [112, 117, 115, 104, 32, 49], [112, 117, 115, 104, 10], [112, 117, 115, 104, 32, 49, 32, 50, 10], [112, 111, 112, 10]]
def badB : List Tx := [[112, 117, 115, 104, 32, 48, 49, 10], [32, 112, 117, 115, 104, 32, 49, 10], [112, 117, 115, 104, 32, 32, 49, 10], [112, 117, 115, 104, 32, 49, 32, 10], [97, 100, 100, 32, 49, 10]]
def badC : List Tx := [[99, 97, 108, 108, 10], [99, 97, 108, 108, 32, 120, 10], [112, 117, 115, 104, 32, 45, 48, 10], [10], [97, 100, 100, 10, 10], [65, 100, 100, 10], [112, 117, 115, 104, 32, 43, 49, 10], [116, 101, 108, 108, 10, 97, 100, 100], [108, 111, 111, 112, 32, 49, 10]]
def badD : List Tx := [[103, 101, 116, 32, 49, 10], [112, 117, 116, 32, 49, 32, 50, 32, 51, 10], [103, 101, 116, 10], [115, 101, 110, 100, 10], [116, 97, 107, 101, 32, 49, 32, 50, 10], [103, 114, 97, 98, 10], [102, 114, 101, 101, 32, 49, 10]]
def badT : List Tx := badA ++ badB ++ badC ++ badD
theorem bad_none : ∀ t ∈ badT, readCode t = none := by
  have h : badT.all (fun t => (readCode t).isNone) = true := by decide +kernel
  intro t ht
  exact Option.isNone_iff_eq_none.mp (List.all_eq_true.mp h t ht)
theorem bad_len : ∀ t ∈ badT, t.length ≤ 200000 := by
  have h : badT.all (fun t => decide (t.length ≤ 200000)) = true := by decide +kernel
  intro t ht
  exact of_decide_eq_true (List.all_eq_true.mp h t ht)
def nines : Tx := (List.replicate 30 [57]).flatten
def farT : Tx := [108, 111, 97, 100, 32, 45, 53, 10, 106, 117, 109, 112, 32] ++ nines ++ [10, 99, 97, 108, 108, 32, 55, 32, 49, 32, 49, 10, 112, 117, 116, 32, 51, 32, 45, 57, 10, 103, 114, 97, 98, 32, 57, 57, 10]
def farD : MV := .tup [.tup [.str [108, 111, 97, 100], .int (-5)], .tup [.str [106, 117, 109, 112], .int ((PySem.NumText.digitsVal nines : Nat) : Int)], .tup [.str [99, 97, 108, 108], .int 7, .tup [.int 1, .int 1]], .tup [.str [112, 117, 116], .int 3, .int (-9)], .tup [.str [103, 114, 97, 98], .int 99]]
theorem far_ok : readCode farT = some farD := rfl
end K09
set_option maxRecDepth 100000
namespace K09
open Mi TL
structure Sz.sm (S : Sz) : Prop where
  inner : 0 ≤ S.inner ∧ S.inner < 10
  slots : 0 ≤ S.slots ∧ S.slots < 10
  called : 0 ≤ S.called ∧ S.called < 10
  ways : 0 ≤ S.ways ∧ S.ways < 10
  locks : S.locks.length ≤ 5 ∧ ∀ i ∈ S.locks, 0 ≤ i ∧ i < 10
theorem Sz.sm.ok {S : Sz} (h : S.sm) : S.ok := ⟨by have := h.inner; omega, by have := h.slots; omega, by have := h.called; omega, by have := h.ways; omega, by have := h.locks.1; omega, fun i hi => by have := h.locks.2 i hi; omega⟩
section
variable {n a b : Nat} {ns : List Int} {M : Hm} {Q : MV → Hm → Prop} {E : MX → Hm → Prop}
theorem log_10 {k : Int} (h0 : 0 ≤ k) (h : k < 100) : k.natAbs.log2 < 9000 := log_few h0 (by omega)
theorem one_n {u : Int × Int × Int} {G : Hm} {l : List MV} {j : Nat} (s : Sta M a b ns) (hj : (M.set a (sto b u) ++ G)[j]? = some (.lst l)) (hne : j ≠ a) (h0 : 0 < l.length) (hl : l.length ≤ 20)
    (h : ∀ e v, e ∈ l → Q e (M.set a (sto b v) ++ G)) : wp (run tab (n + 2) f__law_one_of [.ref a, .ref j] (M.set a (sto b u) ++ G)) Q E :=
  one_of_ok (s.set u).app (.inr ⟨_, rfl, hj, hne⟩) h0 (by omega) fun e v he => by rw [set_n s]; exact h e v he
theorem one_last {u : Int × Int × Int} {G : Hm} {l : List MV} (s : Sta M a b ns) (h0 : 0 < l.length) (hl : l.length ≤ 20)
    (h : ∀ e v, e ∈ l → Q e (M.set a (sto b v) ++ (G ++ [.lst l]))) : wp (run tab (n + 2) f__law_one_of [.ref a, .ref (M.set a (sto b u) ++ G).length] (M.set a (sto b u) ++ (G ++ [.lst l]))) Q E :=
  one_n s (by rw [← List.append_assoc]; exact get_last) (by have := s.la; simp; omega) h0 hl h
def okK (k : Tx) (m : Nat) : Bool := decide (k ≠ k_call ∧ k.length ≤ 10 ∧ (∀ c ∈ k, c ≠ 32 ∧ c ≠ 10 ∧ c < 1114112) ∧ kindOf k ≠ k_call ∧ kindOf k ≠ [110, 111, 110, 101] ∧ m = manyOf (kindOf k))
theorem good_op {k : Tx} {is : List Int} (h : okK k is.length = true) (hs : ∀ i ∈ is, i.natAbs < 10 ^ 18) : (Rw.op k is).good := by
  obtain ⟨h1, h2, h3, h4, h5, h6⟩ := of_decide_eq_true h
  have := many_le (kindOf k)
  refine ⟨⟨by show is.length ≤ 20; omega, hs, h2, fun k' ns' e => by cases e; exact h1⟩, h3, fun k' ns' e => by cases e; exact ⟨h4, h5, h6⟩⟩
theorem good_call {f : Int} {is : List Int} (hl : is.length ≤ 19) (hf : f.natAbs < 10 ^ 18) (hs : ∀ i ∈ is, i.natAbs < 10 ^ 18) : (Rw.call f is).good := by
  refine ⟨⟨by show is.length + 1 ≤ 20; omega, fun i hi => ?_, (show k_call.length ≤ 10 by decide), fun k' ns' e => by cases e⟩, (show ∀ c ∈ k_call, c ≠ 32 ∧ c ≠ 10 ∧ c < 1114112 by decide), fun k' ns' e => by cases e⟩
  rcases List.mem_cons.mp hi with e | e
  · rw [e]; exact hf
  · exact hs i e
/-- one of some words, which stand last -/
theorem one_word {u : Int × Int × Int} {G : Hm} {ws : List Tx} {m : Nat} (s : Sta M a b ns) (hw : ws.all (fun k => okK k m) = true) (h0 : 0 < ws.length) (hl : ws.length ≤ 20)
    (h : ∀ k v, okK k m = true → Q (.str k) (M.set a (sto b v) ++ (G ++ [.lst (ws.map MV.str)]))) : wp (run tab (n + 2) f__law_one_of [.ref a, .ref (M.length + G.length)] (M.set a (sto b u) ++ (G ++ [.lst (ws.map MV.str)]))) Q E := by
  have e : M.length + G.length = (M.set a (sto b u) ++ G).length := by simp
  rw [e]
  refine one_last s (by simpa using h0) (by simpa using hl) fun e v he => ?_
  obtain ⟨k, hk, rfl⟩ := List.mem_map.mp he
  exact h k v (List.all_eq_true.mp hw k hk)
theorem ints_of : ∀ {l : List MV} {b : Nat}, (∀ d ∈ l, ∃ i : Int, d = .int i ∧ i.natAbs < b) → ∃ is : List Int, l = is.map MV.int ∧ ∀ i ∈ is, i.natAbs < b
  | [], b, _ => ⟨[], rfl, by simp⟩
  | d :: l, b, h => by
    obtain ⟨i, rfl, hi⟩ := h d List.mem_cons_self
    obtain ⟨is, rfl, his⟩ := ints_of fun e he => h e (List.mem_cons_of_mem _ he)
    refine ⟨i :: is, rfl, fun j hj => ?_⟩
    rcases List.mem_cons.mp hj with e | e
    · rw [e]; exact hi
    · exact his j e
theorem sum_pos : ∀ {l : List Int}, 0 < l.sum → ∃ k : Nat, k < l.length ∧ 0 < l[k]?.getD 0
  | [], h => absurd h (by decide)
  | x :: l, h => by
    by_cases hx : 0 < x
    · exact ⟨0, by simp, by simpa using hx⟩
    · rw [List.sum_cons] at h
      obtain ⟨k, h1, h2⟩ := sum_pos (l := l) (by omega)
      exact ⟨k + 1, by simpa using h1, by simpa using h2⟩
def posF (l : List Int) : MV → Option MV
  | .int k => if 0 < l[k.toNat]?.getD 0 then some (.int k) else none
  | _ => none
theorem posF_len {l : List Int} (h : 0 < l.sum) : 0 < (((List.range l.length).map fun k : Nat => MV.int (0 + k * 1)).filterMap (posF l)).length := by
  obtain ⟨k, h1, h2⟩ := sum_pos h
  refine List.length_pos_of_mem (a := .int (0 + k * 1)) (List.mem_filterMap.mpr ⟨.int (0 + k * 1), List.mem_map.mpr ⟨k, List.mem_range.mpr h1, rfl⟩, ?_⟩)
  have e3 : (0 + (k : Int) * 1) = (k : Int) := by omega
  rw [e3]
  unfold posF
  simp only [Int.toNat_natCast]
  rw [if_pos h2]
theorem posF_mem {l : List Int} {e : MV} (h : e ∈ ((List.range l.length).map fun k : Nat => MV.int (0 + k * 1)).filterMap (posF l)) : ∃ k : Nat, k < l.length ∧ 0 < l[k]?.getD 0 ∧ e = .int k := by
  obtain ⟨d, hd, he⟩ := List.mem_filterMap.mp h
  obtain ⟨k, hk, rfl⟩ := List.mem_map.mp hd
  have e3 : (0 + (k : Int) * 1) = (k : Int) := by omega
  rw [e3] at he
  unfold posF at he
  simp only [Int.toNat_natCast] at he
  split at he
  · rename_i q
    exact ⟨k, List.mem_range.mp hk, q, (Option.some.inj he).symm⟩
  · cases he
theorem two_of {x y p : Int} (t : (decide (x = p) || decide (y = p)) = true) : p = x ∨ p = y := by
  rcases Bool.or_eq_true_iff.mp t with t | t
  · exact .inl (of_decide_eq_true t).symm
  · exact .inr (of_decide_eq_true t).symm
set_option maxHeartbeats 4000000 in
theorem some_row_ok {S : Sz} {P : Int} (s : Sta M a b ns) (hS : S.sm) (hP : 0 < P ∧ P < 100) (h : ∀ r u, Rw.good r → Q r.mv (M.set a (sto b u))) : wp (run tab (n + 3) f__law_some_row [.ref a, .int P, S.tp] M) Q E := by
  refine w_run rfl rfl ?_
  obtain ⟨u0, hu0⟩ := s.self
  have fin : ∀ (r : Rw) (v : Int × Int × Int) (G : Hm), r.good → gcQ M (M.set a (sto b v) ++ G) r.mv Q := fun r v G hr => by
    rw [gcQ_setapp (s.rf v) ((Rw.db hr).pu.rf _)]
    exact h r v hr
  unfold d__law_some_row b__law_some_row Sz.tp
  dsimp only [List.map, List.replicate, List.append]
  refine wS_cut (fun env M' => M' = M ∧ env = [some (.ref a), some (.int P), some S.tp, some (.int S.inner), some (.int S.slots), some (.int S.called), some (.tup (S.locks.map MV.int)), some (.int S.ways), none, none, none, none, none]) ?_ ?_
  · simp [Sz.tp]
  rintro env M' ⟨rfl, rfl⟩
  refine wS_cut (fun env M1 => ∃ v p, M1 = M'.set a (sto b v) ∧ 0 ≤ p ∧ env = [some (.ref a), some (.int P), some S.tp, some (.int S.inner), some (.int S.slots), some (.int S.called), some (.tup (S.locks.map MV.int)), some (.int S.ways), some (.int p), none, none, none, none]) ?_ ?_
  · simp
    refine draw_ok s (by decide) (by decide) fun k u h1 h2 => ?_
    exact ⟨⟨u.1, u.2.1, u.2.2, rfl⟩, k, h1, rfl⟩
  rintro env M1 ⟨v, p, rfl, hp, rfl⟩
  refine wS_cut (fun env M1 => ∃ v G i, M1 = M'.set a (sto b v) ++ G ∧ i.natAbs < 10 ^ 18 ∧ env = [some (.ref a), some (.int P), some S.tp, some (.int S.inner), some (.int S.slots), some (.int S.called), some (.tup (S.locks.map MV.int)), some (.int S.ways), some (.int p), some (.int i), none, none, none]) ?_ ?_
  · simp
    have gi0 : ∀ o G, (M'.set a o ++ G)[M'.length]? = G[0]? := fun o G => by
      have e : M'.length = (M'.set a o).length := by simp
      rw [e, get_app0]
    have gi : ∀ o G i, (M'.set a o ++ G)[M'.length + i]? = G[i]? := fun o G i => by
      have e : M'.length = (M'.set a o).length := by simp
      rw [e, get_app]
    refine draw_ok (s.set v) (by decide) (by decide) fun k u h1 h2 => ?_
    simp
    refine draw_n s (by decide) (by decide) fun k2 u2 h3 h4 => ?_
    have c12 : cPow 10 12 = true := by decide
    have key : ∀ q : Int, q.natAbs < 10 ^ 18 → wp (run tab (n + 2) f__law_draw [MV.ref a, MV.int 5] (M'.set a (sto b u2) ++ [MO.lst [.int 1, .int (-1)], MO.lst [.int (k - 10), .int q]])) (fun x M1_1 => wp (fEq x (MV.int 0) M1_1) (fun x M1_2 => wp (fIntOf [x] M1_2) (fun y M2 => wp (fIxA (MV.ref (M'.length + 1)) y M2) (fun d M1 => (∃ a_1 a_2 b_1 x, M1 = List.set M' a (sto b (a_1, a_2, b_1)) ++ x) ∧ ∃ x, x.natAbs < 1000000000000000000 ∧ d = MV.int x) fun x M1 => gcE M' M1 x E) fun x M1 => gcE M' M1 x E) fun x M1 => gcE M' M1 x E) (fun x M1 => gcE M' M1 x E) := fun q hq => by
      refine draw_n s (by decide) (by decide) fun k3 u3 h5 h6 => ?_
      have g1 : (M'.set a (sto b u3) ++ [MO.lst [MV.int 1, MV.int (-1)], MO.lst [MV.int (k - 10), MV.int q]])[M'.length + 1]? = some (.lst [MV.int (k - 10), MV.int q]) := by rw [gi]; rfl
      simp
      by_cases h0 : k3 = 0
      · subst h0
        simp [rdLD_l g1]
        exact ⟨⟨_, _, _, _, rfl⟩, hq⟩
      · simp [h0, rdLD_l g1]
        exact ⟨⟨_, _, _, _, rfl⟩, by omega⟩
    have m1 : cMul 1 1000000000000 = true := by decide
    have m2 : cMul (-1) 1000000000000 = true := by decide
    have g0 : (M'.set a (sto b u2) ++ [MO.lst [MV.int 1, MV.int (-1)]])[M'.length]? = some (.lst [MV.int 1, MV.int (-1)]) := by rw [gi0]; rfl
    have hk2 : k2 = 0 ∨ k2 = 1 := by omega
    rcases hk2 with rfl | rfl
    · simp [rdLD_l g0, c12, m1]
      exact key _ (by decide)
    · simp [rdLD_l g0, c12, m2]
      exact key _ (by decide)
  rintro env M1 ⟨v, G, i, rfl, hi, rfl⟩
  refine wS_cut (fun env M1 => ∃ v G, M1 = M'.set a (sto b v) ++ G ∧ env = [some (.ref a), some (.int P), some S.tp, some (.int S.inner), some (.int S.slots), some (.int S.called), some (.tup (S.locks.map MV.int)), some (.int S.ways), some (.int p), some (.int i), none, none, none]) ?_ ?_
  · simp
    refine ifB_p (fun _ => ?_) fun _ => ⟨_, _, _, _, rfl⟩
    refine one_word (ws := [k_push, k_scale]) (m := 1) s (by decide) (by decide) (by decide) fun k v hk => ?_
    exact fin (.op k [i]) v _ (good_op hk (by simpa using hi))
  rintro env M1 ⟨v, G, rfl, rfl⟩
  refine wS_cut (fun env M1 => ∃ v G, M1 = M'.set a (sto b v) ++ G ∧ env = [some (.ref a), some (.int P), some S.tp, some (.int S.inner), some (.int S.slots), some (.int S.called), some (.tup (S.locks.map MV.int)), some (.int S.ways), some (.int p), some (.int i), none, none, none]) ?_ ?_
  · simp
    refine ifB_p (fun _ => ?_) fun _ => ⟨_, _, _, _, rfl⟩
    refine one_word (ws := [k_div, k_mod]) (m := 1) s (by decide) (by decide) (by decide) fun k v hk => ?_
    refine draw_n s (by decide) (by decide) fun q v2 h1 h2 => ?_
    simp
    exact fin (.op k [2 + q]) v2 _ (good_op hk (by simp; omega))
  rintro env M1 ⟨v, G, rfl, rfl⟩
  refine wS_cut (fun env M1 => ∃ v G, M1 = M'.set a (sto b v) ++ G ∧ env = [some (.ref a), some (.int P), some S.tp, some (.int S.inner), some (.int S.slots), some (.int S.called), some (.tup (S.locks.map MV.int)), some (.int S.ways), some (.int p), some (.int i), none, none, none]) ?_ ?_
  · simp
    refine ⟨fun t => ?_, fun _ => ⟨_, _, _, _, rfl⟩⟩
    refine ifB_p (fun hpos => ?_) fun _ => ⟨_, _, _, _, rfl⟩
    have t : p = 2 ∨ p = 3 := two_of t
    rcases t with rfl | rfl
    · simp
      refine draw_n s hpos (log_10 (by omega) (by have := hS.inner; omega)) fun q v2 h1 h2 => ?_
      exact fin (.op k_load [q]) v2 _ (good_op (show okK k_load 1 = true by decide) (by intro i hi; rw [List.mem_singleton.mp hi]; have := hS.inner; omega))
    · simp
      refine draw_n s hpos (log_10 (by omega) (by have := hS.inner; omega)) fun q v2 h1 h2 => ?_
      exact fin (.op k_store [q]) v2 _ (good_op (show okK k_store 1 = true by decide) (by intro i hi; rw [List.mem_singleton.mp hi]; have := hS.inner; omega))
  rintro env M1 ⟨v, G, rfl, rfl⟩
  refine wS_cut (fun env M1 => ∃ v G, M1 = M'.set a (sto b v) ++ G ∧ env = [some (.ref a), some (.int P), some S.tp, some (.int S.inner), some (.int S.slots), some (.int S.called), some (.tup (S.locks.map MV.int)), some (.int S.ways), some (.int p), some (.int i), none, none, none]) ?_ ?_
  · simp
    refine ⟨fun t => ?_, fun _ => ⟨_, _, _, _, rfl⟩⟩
    refine ifB_p (fun hpos => ?_) fun _ => ⟨_, _, _, _, rfl⟩
    have t : p = 4 ∨ p = 5 := two_of t
    have e1 : (G ++ [MO.lst [MV.int 4, MV.int 5], MO.lst [MV.str k_read, MV.str k_write, MV.str k_length, MV.str k_new]]) = (G ++ [MO.lst [MV.int 4, MV.int 5]]) ++ [MO.lst ([k_read, k_write, k_length, k_new].map MV.str)] := by simp
    have e2 : M'.length + (G.length + 1) = M'.length + (G ++ [MO.lst [MV.int 4, MV.int 5]]).length := by simp
    rw [e1, e2]
    refine one_word (m := 1) s (by decide) (by decide) (by decide) fun k v hk => ?_
    refine draw_n s hpos (log_10 (by omega) (by have := hS.slots; omega)) fun q v2 h1 h2 => ?_
    simp
    exact fin (.op k [q]) v2 _ (good_op hk (by intro i hi; rw [List.mem_singleton.mp hi]; have := hS.slots; omega))
  rintro env M1 ⟨v, G, rfl, rfl⟩
  refine wS_cut (fun env M1 => ∃ v G, M1 = M'.set a (sto b v) ++ G ∧ env = [some (.ref a), some (.int P), some S.tp, some (.int S.inner), some (.int S.slots), some (.int S.called), some (.tup (S.locks.map MV.int)), some (.int S.ways), some (.int p), some (.int i), none, none, none]) ?_ ?_
  · simp
    refine ifB_p (fun _ => ?_) fun _ => ⟨_, _, _, _, rfl⟩
    refine one_word (ws := [k_jump, k_less, k_same]) (m := 1) s (by decide) (by decide) (by decide) fun k v hk => ?_
    refine draw_n s hP.1 (log_10 (by omega) (by omega)) fun q v2 h1 h2 => ?_
    simp
    exact fin (.op k [q]) v2 _ (good_op hk (by intro i hi; rw [List.mem_singleton.mp hi]; omega))
  rintro env M1 ⟨v, G, rfl, rfl⟩
  refine wS_cut (fun env M1 => ∃ v G, M1 = M'.set a (sto b v) ++ G ∧ env = [some (.ref a), some (.int P), some S.tp, some (.int S.inner), some (.int S.slots), some (.int S.called), some (.tup (S.locks.map MV.int)), some (.int S.ways), some (.int p), some (.int i), none, none, none]) ?_ ?_
  · simp
    refine ifB_p (fun _ => ?_) fun _ => ⟨_, _, _, _, rfl⟩
    refine ifB_p (fun hpos => ?_) fun _ => ⟨_, _, _, _, rfl⟩
    have hsl := hS.slots
    refine ⟨by omega, ?_⟩
    have e1 : M'.length + G.length = (M'.set a (sto b v) ++ G).length := by simp
    have hla := s.la
    rw [e1, ← List.append_assoc]
    refine shuffledA (W := (List.range S.slots.toNat).map fun k : Nat => MV.int k) ((s.set v).app).app get_last (by simp; omega) (by simp; omega) (fun d hd => ?_) fun l u hpm => ?_
    · obtain ⟨k, _, rfl⟩ := List.mem_map.mp hd
      exact pu_int
    obtain ⟨is, rfl, his⟩ : ∃ is : List Int, l = is.map MV.int ∧ ∀ i ∈ is, i.natAbs < 10 ^ 18 := ints_of fun d hd => by
      obtain ⟨k, hk, rfl⟩ := List.mem_map.mp (hpm.subset hd)
      rw [List.mem_range] at hk
      exact ⟨_, rfl, by omega⟩
    have hl9 : is.length ≤ 19 := by
      have := hpm.length_eq
      simp at this
      omega
    rw [List.append_assoc, set_n s, List.append_assoc]
    refine draw_n s (by omega) (log_10 (by omega) (by omega)) fun q v2 h1 h2 => ?_
    obtain ⟨q, rfl⟩ : ∃ j : Nat, q = j := ⟨_, (Int.toNat_of_nonneg h1).symm⟩
    have g1 : (M'.set a (sto b v2) ++ (G ++ [MO.lst ((List.range S.slots.toNat).map fun k : Nat => MV.int k)] ++ [MO.lst (is.map MV.int)]))[(M'.set a (sto b v) ++ (G ++ [MO.lst ((List.range S.slots.toNat).map fun k : Nat => MV.int k)])).length]? = some (.lst (is.map MV.int)) := by
      have e : (M'.set a (sto b v) ++ (G ++ [MO.lst ((List.range S.slots.toNat).map fun k : Nat => MV.int k)])).length = (M'.set a (sto b v2) ++ (G ++ [MO.lst ((List.range S.slots.toNat).map fun k : Nat => MV.int k)])).length := by simp
      rw [e, ← List.append_assoc (M'.set a (sto b v2)), get_last]
    have hct : cut (is.map MV.int) none (some ((q : Nat) : Int)) = (is.take q).map MV.int := by rw [cut_to, List.map_take]
    dsimp only
    rw [w_slL, rdL_of g1, hct]
    rw [List.append_assoc]
    refine draw_n s hpos (log_10 (by omega) (by have := hS.called; omega)) fun f v3 h3 h4 => ?_
    have g2 : (M'.set a (sto b v3) ++ (G ++ [MO.lst ((List.range S.slots.toNat).map fun k : Nat => MV.int k)] ++ [MO.lst (is.map MV.int)] ++ [MO.lst ((is.take q).map MV.int)]))[(M'.set a (sto b v2) ++ (G ++ [MO.lst ((List.range S.slots.toNat).map fun k : Nat => MV.int k)] ++ [MO.lst (is.map MV.int)])).length]? = some (.lst ((is.take q).map MV.int)) := by
      have e : (M'.set a (sto b v2) ++ (G ++ [MO.lst ((List.range S.slots.toNat).map fun k : Nat => MV.int k)] ++ [MO.lst (is.map MV.int)])).length = (M'.set a (sto b v3) ++ (G ++ [MO.lst ((List.range S.slots.toNat).map fun k : Nat => MV.int k)] ++ [MO.lst (is.map MV.int)])).length := by simp
      rw [e, ← List.append_assoc (M'.set a (sto b v3)), get_last]
    rw [w_tupL, rdL_of g2]
    exact fin (.call f (is.take q)) v3 _ (good_call (by rw [List.length_take]; omega) (by have := hS.called; omega) fun i hi => his i (List.mem_of_mem_take hi))
  rintro env M1 ⟨v, G, rfl, rfl⟩
  refine wS_cut (fun env M1 => ∃ v G, M1 = M'.set a (sto b v) ++ G ∧ env = [some (.ref a), some (.int P), some S.tp, some (.int S.inner), some (.int S.slots), some (.int S.called), some (.tup (S.locks.map MV.int)), some (.int S.ways), some (.int p), some (.int i), none, none, none]) ?_ ?_
  · simp
    refine ⟨fun t => ?_, fun _ => ⟨_, _, _, _, rfl⟩⟩
    refine ifB_p (fun hpos => ?_) fun _ => ⟨_, _, _, _, rfl⟩
    have t : p = 8 ∨ p = 9 := two_of t
    have e1 : (G ++ [MO.lst [MV.int 8, MV.int 9], MO.lst [MV.str k_grab, MV.str k_drop]]) = (G ++ [MO.lst [MV.int 8, MV.int 9]]) ++ [MO.lst ([k_grab, k_drop].map MV.str)] := by simp
    have e2 : M'.length + (G.length + 1) = M'.length + (G ++ [MO.lst [MV.int 8, MV.int 9]]).length := by simp
    rw [e1, e2]
    refine one_word (m := 1) s (by decide) (by decide) (by decide) fun k v hk => ?_
    simp
    refine draw_n s (by simpa using hpos) (log_10 (by omega) (by have := hS.locks.1; omega)) fun q v2 h1 h2 => ?_
    exact fin (.op k [q]) v2 _ (good_op hk (by intro i hi; rw [List.mem_singleton.mp hi]; have := hS.locks.1; omega))
  rintro env M1 ⟨v, G, rfl, rfl⟩
  refine wS_cut (fun env M1 => ∃ v G, M1 = M'.set a (sto b v) ++ G ∧ env = [some (.ref a), some (.int P), some S.tp, some (.int S.inner), some (.int S.slots), some (.int S.called), some (.tup (S.locks.map MV.int)), some (.int S.ways), some (.int p), some (.int i), none, none, none]) ?_ ?_
  · simp [intsOf_map]
    refine ⟨fun t => ?_, fun _ => ⟨_, _, _, _, rfl⟩⟩
    have t : p = 10 ∨ p = 11 := two_of t
    refine ifB_p (fun hpos => ?_) fun _ => ⟨_, _, _, _, rfl⟩
    have hlk := hS.locks.1
    refine ⟨in62_nat (by omega), ?_⟩
    have hlr : ((List.range S.locks.length).map fun k : Nat => MV.int (0 + k * 1)).length = S.locks.length := by simp
    have key := fun {Ql} {E} {c} {ee} {env} {M : Hm} (hs) (h) => w_lcF (Ql := Ql) (E := E) (M := M) (c := c) (e := ee) (env := env) (g := gN 12) (ni := nR 0 1 S.locks.length) (l := (List.range S.locks.length).map fun k : Nat => MV.int (0 + k * 1)) (posF S.locks) wk_R (by rw [hlr, SL_eq]; omega) hs h
    rw [hlr] at key
    refine key (fun d hd => ?_) ?_
    · obtain ⟨k, hk, rfl⟩ := List.mem_map.mp hd
      rw [List.mem_range] at hk
      have e3 : (0 + (k : Int) * 1) = (k : Int) := by omega
      rw [e3]
      obtain ⟨c, hc, c0, c1, hr⟩ := lock_at hS.ok (i := (k : Int)) (by omega) (by omega)
      have e6 : posF S.locks (.int (k : Nat)) = if 0 < c then some (.int (k : Nat)) else none := by
        show (if 0 < S.locks[((k : Nat) : Int).toNat]?.getD 0 then some (MV.int ((k : Nat) : Int)) else none) = _
        rw [hc]
      simp [wipeE, hr, e6]
      by_cases hcp : 0 < c
      · simp [hcp]
      · simp [hcp]
        omega
    · have hln : (((List.range S.locks.length).map fun k : Nat => MV.int (0 + k * 1)).filterMap (posF S.locks)).length ≤ 20 := by
        have := List.length_filterMap_le (posF S.locks) ((List.range S.locks.length).map fun k : Nat => MV.int (0 + k * 1))
        rw [hlr] at this
        omega
      rw [List.append_assoc]
      have hla := s.la
      refine one_n s (by rw [← List.append_assoc]; exact get_last) (by simp; omega) (posF_len hpos) hln fun e v2 he => ?_
      obtain ⟨k, k1, k2, rfl⟩ := posF_mem he
      obtain ⟨c, hc, c0, c1, hr⟩ := lock_at hS.ok (i := (k : Int)) (by omega) (by omega)
      have hc2 : S.locks[k]?.getD 0 = c := hc
      rw [hc2] at k2
      have hc10 : c < 10 := by
        have := (hS.locks.2 _ (List.getElem_mem k1)).2
        rw [List.getElem?_eq_getElem k1] at hc2
        have : S.locks[k] = c := hc2
        omega
      rcases t with rfl | rfl
      · simp [hr]
        refine draw_n s (by omega) (log_10 (by omega) (by omega)) fun q v3 h3 h4 => ?_
        exact fin (.op k_get [(k : Int), q]) v3 _ (good_op (show okK k_get 2 = true by decide) (by intro i hi; simp only [List.mem_cons, List.not_mem_nil, or_false] at hi; rcases hi with e | e <;> subst e <;> omega))
      · simp [hr]
        refine draw_n s (by omega) (log_10 (by omega) (by omega)) fun q v3 h3 h4 => ?_
        exact fin (.op k_put [(k : Int), q]) v3 _ (good_op (show okK k_put 2 = true by decide) (by intro i hi; simp only [List.mem_cons, List.not_mem_nil, or_false] at hi; rcases hi with e | e <;> subst e <;> omega))
  rintro env M1 ⟨v, G, rfl, rfl⟩
  refine wS_cut (fun env M1 => ∃ v G, M1 = M'.set a (sto b v) ++ G ∧ env = [some (.ref a), some (.int P), some S.tp, some (.int S.inner), some (.int S.slots), some (.int S.called), some (.tup (S.locks.map MV.int)), some (.int S.ways), some (.int p), some (.int i), none, none, none]) ?_ ?_
  · simp
    refine ifB_p (fun _ => ?_) fun _ => ⟨_, _, _, _, rfl⟩
    refine ifB_p (fun hpos => ?_) fun _ => ⟨_, _, _, _, rfl⟩
    refine one_word (ws := [k_send, k_take]) (m := 1) s (by decide) (by decide) (by decide) fun k v hk => ?_
    refine draw_n s hpos (log_10 (by omega) (by have := hS.ways; omega)) fun q v2 h1 h2 => ?_
    simp
    exact fin (.op k [q]) v2 _ (good_op hk (by intro i hi; rw [List.mem_singleton.mp hi]; have := hS.ways; omega))
  rintro env M1 ⟨v, G, rfl, rfl⟩
  simp
  refine one_word (ws := [k_add, k_sub, k_loop, k_tell]) (m := 0) s (by decide) (by decide) (by decide) fun k v hk => ?_
  exact fin (.op k []) v _ (good_op hk (by simp))
end
end K09
set_option maxRecDepth 100000
namespace K09
open Mi TL
/-! ### the law -/
abbrev W9 : Nat := 999999999999999999
abbrev V9 : Nat := 3000000000000000000
def dbB (z w : Nat) : Nat → MV → Bool
  | _, .int i => decide (i.natAbs ≤ w)
  | _, .str s => decide (s.length ≤ z) && s.all fun c => decide (c < 1114112)
  | m + 1, .tup l => decide (l.length ≤ z) && l.attach.all fun d => dbB z w m d.1
  | _, _ => false
theorem dbB_ok {z w : Nat} : ∀ (m : Nat) (d : MV), dbB z w m d = true → Db z w m d := by
  have flat : ∀ m d, (∀ l, d ≠ .tup l) → dbB z w m d = true → Db z w m d := fun m d hd h => by
    cases d with
    | int i => exact .int (by cases m <;> exact of_decide_eq_true h)
    | str s =>
      have h : (decide (s.length ≤ z) && s.all fun c => decide (c < 1114112)) = true := by cases m <;> exact h
      rw [Bool.and_eq_true, List.all_eq_true] at h
      exact .str (of_decide_eq_true h.1) fun c hc => of_decide_eq_true (h.2 c hc)
    | tup l => exact absurd rfl (hd l)
    | non => cases m <;> cases h
    | bl b => cases m <;> cases h
    | ref k => cases m <;> cases h
    | rol l => cases m <;> cases h
  intro m
  induction m with
  | zero =>
    intro d h
    cases d with
    | tup l => cases h
    | _ => exact flat 0 _ (by simp) h
  | succ m ih =>
    intro d h
    cases d with
    | tup l =>
      have h : (decide (l.length ≤ z) && l.attach.all fun d => dbB z w m d.1) = true := h
      rw [Bool.and_eq_true, List.all_eq_true] at h
      exact .tup (of_decide_eq_true h.1) fun d hd => ih d (h.2 ⟨d, hd⟩ (List.mem_attach _ _))
    | _ => exact flat _ _ (by simp) h
theorem same_s {n : Nat} {s : Tx} {M : Hm} {Q : MV → Hm → Prop} {E : MX → Hm → Prop} (h : Q (.bl true) M) : wp (run tab (n + 1) f__law_same [.str s, .str s] M) Q E := by
  refine w_run rfl rfl ?_
  simp [d__law_same, b__law_same]
  exact h
def L1 (ns : List Int) (env : Mi.Env) (M : Hm) : Prop := ∃ (a b : Nat) (v0 v2 v3 v4 v5 v6 v7 v8 v9 v10 v11 v12 v13 v14 v15 v16 v17 : Option MV), env = [v0, some (.ref a), v2, v3, v4, v5, v6, v7, v8, v9, v10, v11, v12, v13, v14, v15, v16, v17] ∧ Sta M a b ns
def L3 (ns : List Int) (env : Mi.Env) (M : Hm) : Prop := ∃ (a b : Nat) (ls : List Int) (v0 v2 v4 v5 v6 v7 v8 v9 v10 v11 v12 v13 v14 v15 v16 v17 : Option MV), env = [v0, some (.ref a), v2, some (.tup (ls.map MV.int)), v4, v5, v6, v7, v8, v9, v10, v11, v12, v13, v14, v15, v16, v17] ∧ Sta M a b ns ∧ ls.length ≤ 4 ∧ ∀ i ∈ ls, 0 ≤ i ∧ i < 10
def L4 (ns : List Int) (env : Mi.Env) (M : Hm) : Prop := ∃ (a b : Nat) (S : Sz) (v0 v2 v5 v6 v7 v8 v9 v10 v11 v12 v13 v14 v15 v16 v17 : Option MV), env = [v0, some (.ref a), v2, some (.tup (S.locks.map MV.int)), some S.tp, v5, v6, v7, v8, v9, v10, v11, v12, v13, v14, v15, v16, v17] ∧ Sta M a b ns ∧ S.sm ∧ S.locks.length ≤ 4
def L5 (ns : List Int) (env : Mi.Env) (M : Hm) : Prop := ∃ (a b : Nat) (S : Sz) (P : Int) (v0 v2 v6 v7 v8 v9 v10 v11 v12 v13 v14 v15 v16 v17 : Option MV), env = [v0, some (.ref a), v2, some (.tup (S.locks.map MV.int)), some S.tp, some (.int P), v6, v7, v8, v9, v10, v11, v12, v13, v14, v15, v16, v17] ∧ Sta M a b ns ∧ S.sm ∧ S.locks.length ≤ 4 ∧ 0 < P ∧ P < 10
def L6 (ns : List Int) (env : Mi.Env) (M : Hm) : Prop := ∃ (a b : Nat) (S : Sz) (rs : List Rw) (v0 v2 v5 v7 v8 v9 v10 v11 v12 v13 v14 v15 v16 v17 : Option MV), env = [v0, some (.ref a), v2, some (.tup (S.locks.map MV.int)), some S.tp, v5, some (.tup (rs.map Rw.mv)), v7, v8, v9, v10, v11, v12, v13, v14, v15, v16, v17] ∧ Sta M a b ns ∧ S.sm ∧ S.locks.length ≤ 4 ∧ rs ≠ [] ∧ rs.length ≤ 10 ∧ ∀ r ∈ rs, r.good
def L7 (ns : List Int) (env : Mi.Env) (M : Hm) : Prop := ∃ (a b : Nat) (S : Sz) (rs : List Rw) (v0 v2 v5 v8 v9 v10 v11 v12 v13 v14 v15 v16 v17 : Option MV), env = [v0, some (.ref a), v2, some (.tup (S.locks.map MV.int)), some S.tp, v5, some (.tup (rs.map Rw.mv)), some (.str (codeT rs)), v8, v9, v10, v11, v12, v13, v14, v15, v16, v17] ∧ Sta M a b ns ∧ S.sm ∧ S.locks.length ≤ 4 ∧ rs ≠ [] ∧ rs.length ≤ 10 ∧ ∀ r ∈ rs, r.good
def L8 (ns : List Int) (env : Mi.Env) (M : Hm) : Prop := ∃ (a b : Nat) (S : Sz) (g : MV) (gs : List MV) (v0 v2 v5 v7 v8 v9 v10 v11 v12 v13 v14 v15 v16 v17 : Option MV), env = [v0, some (.ref a), v2, some (.tup (S.locks.map MV.int)), some S.tp, v5, some (.tup (g :: gs)), v7, v8, v9, v10, v11, v12, v13, v14, v15, v16, v17] ∧ Sta M a b ns ∧ S.sm ∧ S.locks.length ≤ 4 ∧ (g :: gs).length ≤ 10 ∧ ∀ d ∈ g :: gs, Db 20 W9 2 d
def LO (m : Nat) (ns : List Int) (env : Mi.Env) (M : Hm) : Prop := ∃ (a b k : Nat) (S : Sz) (g : MV) (gs l : List MV) (v0 v2 v5 v7 v9 v10 v11 v12 v13 v14 v15 v16 v17 : Option MV), env = [v0, some (.ref a), v2, some (.tup (S.locks.map MV.int)), some S.tp, v5, some (.tup (g :: gs)), v7, some (.ref k), v9, v10, v11, v12, v13, v14, v15, v16, v17] ∧ Sta M a b ns ∧ S.sm ∧ S.locks.length ≤ 4 ∧ (g :: gs).length ≤ 10 ∧ (∀ d ∈ g :: gs, Db 20 W9 2 d) ∧ M[k]? = some (.lst l) ∧ k ≠ a ∧ l.length ≤ m ∧ ∀ d ∈ l, Db 100 V9 6 d
def LB (ts : List Tx) (env : Mi.Env) (M : Hm) : Prop := ∃ (k : Nat) (v0 v1 v2 v3 v4 v5 v6 v7 v8 v9 v10 v11 v12 v13 v14 v16 v17 : Option MV), env = [v0, v1, v2, v3, v4, v5, v6, v7, v8, v9, v10, v11, v12, v13, v14, some (.ref k), v16, v17] ∧ M[k]? = some (.lst (ts.map MV.str))
section
variable {ns : List Int}
theorem law_turn {G : Ga} : True := trivial
end
abbrev addR : MV := .tup [.str [97, 100, 100]]
def addN (k : Nat) : MV := .tup (List.replicate k addR)
theorem rep_one {α : Type} (x : α) : ∀ n : Nat, (List.replicate n [x]).flatten = List.replicate n x
  | 0 => rfl
  | n + 1 => by rw [List.replicate_succ, List.flatten_cons, rep_one x n]; rfl
section
variable {M : Hm} {Q : MV → Hm → Prop} {E : MX → Hm → Prop}
theorem add_400 : wp (fMulA (.tup [addR]) (.int 400) M) Q E = Q (addN 400) M := by
  rw [w_mulAT, rep_one]
  show (_ ∧ Q (.tup (List.replicate 400 addR)) M) = _
  exact propext ⟨fun h => h.2, fun h => ⟨⟨by simp, by decide, by decide, by decide⟩, h⟩⟩
theorem add_401 : wp (fMulA (.tup [addR]) (.int 401) M) Q E = Q (addN 401) M := by
  rw [w_mulAT, rep_one]
  show (_ ∧ Q (.tup (List.replicate 401 addR)) M) = _
  exact propext ⟨fun h => h.2, fun h => ⟨⟨by simp, by decide, by decide, by decide⟩, h⟩⟩
theorem add_db {k : Nat} (h : k ≤ 500) : Db 500 W9 2 (addN k) := .tup (by rw [List.length_replicate]; omega) fun d hd => by
  rw [(List.mem_replicate.mp hd).2]
  exact dbB_ok 1 _ (by decide +kernel)
theorem add_ok4 : wp (run tab 55 f_is_code [addN 400, .int 0, .int 0, .int 0, .tup [], .int 0] M) Q E = Q (.bl true) M := by
  have h := is_code_ok (n := 50) (M := M) (Q := Q) (E := E) (S := ⟨0, 0, 0, [], 0⟩) ⟨by decide, by decide, by decide, by decide, by decide, by decide⟩ (add_db (k := 400) (by decide)) (by decide) (by decide)
  rw [show codeB ⟨0, 0, 0, [], 0⟩ (addN 400) = true by decide +kernel] at h
  exact h
theorem add_ok5 : wp (run tab 55 f_is_code [addN 401, .int 0, .int 0, .int 0, .tup [], .int 0] M) Q E = Q (.bl false) M := by
  have h := is_code_ok (n := 50) (M := M) (Q := Q) (E := E) (S := ⟨0, 0, 0, [], 0⟩) ⟨by decide, by decide, by decide, by decide, by decide, by decide⟩ (add_db (k := 401) (by decide)) (by decide) (by decide)
  rw [show codeB ⟨0, 0, 0, [], 0⟩ (addN 401) = false by decide +kernel] at h
  exact h
theorem nines_is : wp (fMulA (.str [57]) (.int 30) M) Q E = Q (.str nines) M := by
  rw [w_mulAS]
  exact propext ⟨fun h => h.2, fun h => ⟨⟨by simp, by decide, by decide, by decide⟩, h⟩⟩
theorem far_is : True := trivial
end
set_option maxHeartbeats 8000000 in
theorem keeps : Mi.Keeps tab 56 f_law := by
  intro ns hn hb
  obtain ⟨v, M, h, rfl⟩ : ∃ v M, Mi.run tab 56 f_law [.rol (ns.map MV.int)] [] = .ok v M ∧ v = .bl true := by
    refine D.wp_ok_of (Q := fun (v : MV) _ => v = MV.bl true) (wp.out ?_)
    refine w_run rfl rfl ?_
    unfold d_law b_law
    dsimp only [List.map, List.replicate, List.append]
    refine wS_cut (L1 ns) ?_ ?_
    · simp
      refine start_ok fun M' a b s => ?_
      exact ⟨a, b, _, _, _, _, _, _, _, _, _, _, _, _, _, _, _, _, _, rfl, s⟩
    rintro env M ⟨a, b, v0, v2, v3, v4, v5, v6, v7, v8, v9, v10, v11, v12, v13, v14, v15, v16, v17, rfl, s⟩
    refine wS_cut (L1 ns) ?_ ?_
    · have h3 : in62 3 = true := by decide
      simp [h3]
      refine wS_forR (fun k env M => L1 ns env M) ⟨a, b, v0, v2, v3, v4, v5, v6, v7, v8, v9, v10, v11, v12, v13, v14, v15, v16, v17, rfl, s⟩ (fun k env M hk hi => ?_) fun env M hi => hi
      clear s
      obtain ⟨a, b, v0, v2, v3, v4, v5, v6, v7, v8, v9, v10, v11, v12, v13, v14, v15, v16, v17, rfl, s⟩ := hi
      rw [w_gN]
      refine wS_cut (L3 ns) ?_ ?_
      · simp
        refine draw_ok s (by decide) (by decide) fun c u h1 h2 => ?_
        obtain ⟨c, rfl⟩ : ∃ j : Nat, c = j := ⟨_, (Int.toNat_of_nonneg h1).symm⟩
        simp [in62_nat (n := c) (by omega), wipeE]
        refine w_lcR (fun k acc M' => ∃ (is : List Int) (u : Int × Int × Int), acc = is.map MV.int ∧ is.length = k ∧ (∀ i ∈ is, 0 ≤ i ∧ i < 10) ∧ M' = M.set a (sto b u)) ⟨[], u, rfl, rfl, by simp, rfl⟩ ?_ ?_
        · rintro k acc M' hk ⟨is, u, rfl, hl, hi, rfl⟩
          simp
          refine draw_ok (s.set u) (by decide) (by decide) fun q u2 h3 h4 => ?_
          refine ⟨by omega, is ++ [q], by simp, by simp [hl], fun i hm => ?_, u2.1, u2.2.1, u2.2.2, by simp⟩
          rcases List.mem_append.mp hm with e | e
          · exact hi i e
          · rw [List.mem_singleton.mp e]; omega
        · rintro acc M' ⟨is, u, rfl, hl, hi, rfl⟩
          rw [gcQ_setapp (s.rf u) ((Pu.tup (pu_ints (ns := is))).rf _)]
          exact ⟨a, b, is, _, _, _, _, _, _, _, _, _, _, _, _, _, _, _, _, rfl, s.set u, by omega, hi⟩
      clear s
      rintro env M ⟨a, b, ls, v0, v2, v4, v5, v6, v7, v8, v9, v10, v11, v12, v13, v14, v15, v16, v17, rfl, s, hl, hi⟩
      refine wS_cut (L4 ns) ?_ ?_
      · simp
        refine draw_ok s (by decide) (by decide) fun q1 u1 h1 h2 => ?_
        refine draw_ok (s.set u1) (by decide) (by decide) fun q2 u2 h3 h4 => ?_
        simp only [List.set_set]
        refine draw_ok (s.set u2) (by decide) (by decide) fun q3 u3 h5 h6 => ?_
        simp
        refine draw_ok (s.set u3) (by decide) (by decide) fun q4 u4 h7 h8 => ?_
        simp
        exact ⟨a, b, ⟨q1, q2, q3, ls, q4⟩, _, _, _, _, _, _, _, _, _, _, _, _, _, _, _, rfl, s.set u4, ⟨by constructor <;> simp <;> omega, by constructor <;> simp <;> omega, by constructor <;> simp <;> omega, by constructor <;> simp <;> omega, by show ls.length ≤ 5; omega, hi⟩, hl⟩
      clear s
      rintro env M ⟨a, b, S, v0, v2, v5, v6, v7, v8, v9, v10, v11, v12, v13, v14, v15, v16, v17, rfl, s, hS, hl4⟩
      refine wS_cut (L5 ns) ?_ ?_
      · simp
        refine draw_ok s (by decide) (by decide) fun q u h1 h2 => ?_
        exact ⟨a, b, S, 1 + q, _, _, _, _, _, _, _, _, _, _, _, _, _, _, rfl, s.set u, hS, hl4, by omega, by omega⟩
      clear s
      rintro env M ⟨a, b, S, P, v0, v2, v6, v7, v8, v9, v10, v11, v12, v13, v14, v15, v16, v17, rfl, s, hS, hl4, hP, hP2⟩
      refine wS_cut (L6 ns) ?_ ?_
      · obtain ⟨P, rfl⟩ : ∃ j : Nat, P = j := ⟨_, (Int.toNat_of_nonneg (by omega)).symm⟩
        simp [in62_nat (n := P) (by omega), wipeE]
        obtain ⟨u0, hu0⟩ := s.self
        refine w_lcR (fun k acc M' => ∃ (rs : List Rw) (u : Int × Int × Int), acc = rs.map Rw.mv ∧ rs.length = k ∧ (∀ r ∈ rs, r.good) ∧ M' = M.set a (sto b u)) ⟨[], u0, rfl, rfl, by simp, hu0.symm⟩ ?_ ?_
        · rintro k acc M' hk ⟨rs, u, rfl, hl, hi, rfl⟩
          simp
          refine some_row_ok (n := 52) (s.set u) hS (by omega) fun r u2 hr => ?_
          refine ⟨by omega, rs ++ [r], by simp, by simp [hl], fun x hm => ?_, u2.1, u2.2.1, u2.2.2, by simp⟩
          rcases List.mem_append.mp hm with e | e
          · exact hi x e
          · rw [List.mem_singleton.mp e]; exact hr
        · rintro acc M' ⟨rs, u, rfl, hl, hi, rfl⟩
          rw [gcQ_setapp (s.rf u) ((Pu.tup (l := rs.map Rw.mv) fun d hd => by obtain ⟨r, hr, rfl⟩ := List.mem_map.mp hd; exact (Rw.db (hi r hr)).pu).rf _)]
          exact ⟨a, b, S, rs, _, _, _, _, _, _, _, _, _, _, _, _, _, _, rfl, s.set u, hS, hl4, fun z => by rw [z] at hl; simp at hl; omega, by omega, hi⟩
      clear s
      rintro env M ⟨a, b, S, rs, v0, v2, v5, v7, v8, v9, v10, v11, v12, v13, v14, v15, v16, v17, rfl, s, hS, hl4, hne, hrl, hr⟩
      refine wS_cut (L7 ns) ?_ ?_
      · have hlr : (rs.map Rw.mv).length = rs.length := by simp
        have hfine : ∀ r ∈ rs, r.fine := fun r h => (hr r h).tofine
        simp [wipeE]
        have key := fun {Ql} {E} {ee} {env} {M : Hm} (hs) (h) => w_lcM (Ql := Ql) (E := E) (M := M) (e := ee) (env := env) (g := gN 12) (ni := nT (rs.map Rw.mv)) (l := rs.map Rw.mv) (fun d => .str ((rwF d).tx ++ [10])) wk_T (by rw [hlr, SL_eq]; omega) hs h
        rw [hlr] at key
        refine key (fun d hd => ?_) ?_
        · obtain ⟨r, hi, rfl⟩ := List.mem_map.mp hd
          have := Rw.tx_len (hfine r hi)
          simp
          refine law_row_text_ok (n := 52) (hfine r hi) ?_
          rw [rwF_mv (hfine r hi)]
          simp
          omega
        · have e1 : (rs.map Rw.mv).map (fun d => .str ((rwF d).tx ++ [10])) = (rs.map fun r => r.tx ++ [10]).map MV.str := by
            rw [List.map_map, List.map_map]
            refine List.map_congr_left fun r hm => ?_
            show MV.str _ = MV.str _
            rw [rwF_mv (hfine r hm)]
          rw [e1]
          have e2 := texts_str (rs.map fun r => r.tx ++ [10])
          rw [List.map_map] at e2
          simp
          rw [rdO_of e2, joinT_nil]
          exact ⟨Nat.le_trans (txs_sum hfine) (by omega), a, b, S, rs, _, _, _, _, _, _, _, _, _, _, _, _, _, rfl, s, hS, hl4, hne, hrl, hr⟩
      clear s
      rintro env M ⟨a, b, S, rs, v0, v2, v5, v8, v9, v10, v11, v12, v13, v14, v15, v16, v17, rfl, s, hS, hl4, hne, hrl, hr⟩
      refine wS_cut (L8 ns) ?_ ?_
      · have hfine : ∀ r ∈ rs, r.fine := fun r h => (hr r h).tofine
        have htl := codeT_len hfine
        have hdb : Db 20 W9 3 (.tup (rs.map Rw.mv)) := .tup (by simp; omega) fun d hd => by obtain ⟨r, h, rfl⟩ := List.mem_map.mp hd; exact Rw.db (hr r h)
        simp
        refine write_code_ok (n := 51) (by omega) hfine ?_
        refine same_s (n := 54) ?_
        simp
        refine read_code_ok (n := 52) (by omega) (fun v hv => ?_) fun hv => ?_
        · rw [code_back hne hr] at hv
          cases hv
          refine same_ok (n := 50) (by decide) 3 _ hdb ?_
          simp
          cases rs with
          | nil => exact absurd rfl hne
          | cons r rs =>
            exact ⟨a, b, S, r.mv, rs.map Rw.mv, _, _, _, _, _, _, _, _, _, _, _, _, _, _, rfl, s, hS, hl4, by simpa using hrl, fun d hd => by obtain ⟨r, h, rfl⟩ := List.mem_map.mp (show d ∈ (_ :: rs).map Rw.mv from hd); exact Rw.db (hr r h)⟩
        · rw [code_back hne hr] at hv
          cases hv
      clear s
      rintro env M ⟨a, b, S, g, gs, v0, v2, v5, v7, v8, v9, v10, v11, v12, v13, v14, v15, v16, v17, rfl, s, hS, hl4, hgl, hg⟩
      have whole : ∀ l : List MV, l.length ≤ 100 → (∀ d ∈ l, d ∈ g :: gs ∨ Db 100 V9 5 d) → Db 100 V9 6 (.tup l) := fun l h1 h2 => .tup h1 fun d hd => by
        rcases h2 d hd with e | e
        · exact (hg d e).mono (by decide) (by decide) _ (by decide)
        · exact e
      have hgl2 : gs.length + 1 ≤ 10 := hgl
      refine wS_cut (LO 5 ns) ?_ ?_
      · have hcl := cut_len (g :: gs) none (some (-1))
        have hct : cut (g :: gs) none (some 1) = [g] := cut_to _ 1
        simp [hct]
        refine ⟨by omega, ?_⟩
        refine ⟨a, b, _, S, g, gs, _, _, _, _, _, _, _, _, _, _, _, _, _, _, rfl, s.app, hS, hl4, hgl, hg, get_last, by have := s.la; omega, by simp, fun d hd => ?_⟩
        simp only [List.mem_cons, List.not_mem_nil, or_false] at hd
        rcases hd with rfl | rfl | rfl | rfl | rfl
        · exact whole _ (by omega) fun d hd => .inl hd
        · exact whole _ (by omega) fun d hd => .inl (cut_mem hd)
        · refine whole _ (by simp; omega) fun d hd => .inl ?_
          simp only [List.mem_cons, List.mem_append, List.not_mem_nil, or_false] at hd ⊢
          rcases hd with e | e | e
          · exact .inl e
          · exact .inr e
          · exact .inl e
        · refine whole _ (by simp; omega) fun d hd => .inl ?_
          simp only [List.mem_cons, List.mem_append, List.mem_reverse, List.not_mem_nil, or_false] at hd ⊢
          exact hd.symm
        · exact dbB_ok 6 _ (by decide +kernel)
      clear s whole hgl2
      rintro env M ⟨a, b, k, S, g, gs, l, v0, v2, v5, v7, v9, v10, v11, v12, v13, v14, v15, v16, v17, rfl, s, hS, hl4, hgl, hg, hk, hka, hll, hl⟩
      refine wS_cut (LO 10 ns) ?_ ?_
      · have c12 : cPow 10 12 = true := by decide
        simp [c12]
        rw [w_addL (get_old hk) get_last]
        refine ⟨by simp; omega, ?_⟩
        refine ⟨a, b, _, S, g, gs, _, _, _, _, _, _, _, _, _, _, _, _, _, _, rfl, s.app.app, hS, hl4, hgl, hg, get_last, by have := s.la; simp; omega, by simp; omega, fun d hd => ?_⟩
        rcases List.mem_append.mp hd with e | e
        · exact hl d e
        · simp only [List.mem_cons, List.not_mem_nil, or_false] at e
          rcases e with rfl | rfl | rfl | rfl | rfl
          · exact dbB_ok 6 _ (by decide +kernel)
          · exact dbB_ok 6 _ (by decide +kernel)
          · exact (hg _ List.mem_cons_self).mono (by decide) (by decide) _ (by decide)
          · exact dbB_ok 6 _ (by decide +kernel)
          · exact dbB_ok 6 _ (by decide +kernel)
      clear s
      rintro env M ⟨a, b, k, S, g, gs, l, v0, v2, v5, v7, v9, v10, v11, v12, v13, v14, v15, v16, v17, rfl, s, hS, hl4, hgl, hg, hk, hka, hll, hl⟩
      refine wS_cut (LO 14 ns) ?_ ?_
      · have c12 : cPow 10 12 = true := by decide
        simp [c12]
        rw [w_addL (get_old hk) get_last]
        refine ⟨by simp; omega, ?_⟩
        refine ⟨a, b, _, S, g, gs, _, _, _, _, _, _, _, _, _, _, _, _, _, _, rfl, s.app.app, hS, hl4, hgl, hg, get_last, by have := s.la; simp; omega, by simp; omega, fun d hd => ?_⟩
        rcases List.mem_append.mp hd with e | e
        · exact hl d e
        · simp only [List.mem_cons, List.not_mem_nil, or_false] at e
          rcases e with rfl | rfl | rfl | rfl <;> exact dbB_ok 6 _ (by decide +kernel)
      clear s
      rintro env M ⟨a, b, k, S, g, gs, l, v0, v2, v5, v7, v9, v10, v11, v12, v13, v14, v15, v16, v17, rfl, s, hS, hl4, hgl, hg, hk, hka, hll, hl⟩
      refine wS_cut (LO 17 ns) ?_ ?_
      · have c12 : cPow 10 12 = true := by decide
        simp [c12]
        rw [w_addL (get_old hk) get_last]
        refine ⟨by simp; omega, ?_⟩
        refine ⟨a, b, _, S, g, gs, _, _, _, _, _, _, _, _, _, _, _, _, _, _, rfl, s.app.app, hS, hl4, hgl, hg, get_last, by have := s.la; simp; omega, by simp; omega, fun d hd => ?_⟩
        rcases List.mem_append.mp hd with e | e
        · exact hl d e
        · simp only [List.mem_cons, List.not_mem_nil, or_false] at e
          rcases e with rfl | rfl | rfl <;> exact dbB_ok 6 _ (by decide +kernel)
      clear s
      rintro env M ⟨a, b, k, S, g, gs, l, v0, v2, v5, v7, v9, v10, v11, v12, v13, v14, v15, v16, v17, rfl, s, hS, hl4, hgl, hg, hk, hka, hll, hl⟩
      refine wS_cut (LO 20 ns) ?_ ?_
      · have c12 : cPow 10 12 = true := by decide
        simp [c12]
        rw [w_addL (get_old hk) get_last]
        refine ⟨by simp; omega, ?_⟩
        refine ⟨a, b, _, S, g, gs, _, _, _, _, _, _, _, _, _, _, _, _, _, _, rfl, s.app.app, hS, hl4, hgl, hg, get_last, by have := s.la; simp; omega, by simp; omega, fun d hd => ?_⟩
        rcases List.mem_append.mp hd with e | e
        · exact hl d e
        · simp only [List.mem_cons, List.not_mem_nil, or_false] at e
          rcases e with rfl | rfl | rfl <;> exact dbB_ok 6 _ (by decide +kernel)
      clear s
      rintro env M ⟨a, b, k, S, g, gs, l, v0, v2, v5, v7, v9, v10, v11, v12, v13, v14, v15, v16, v17, rfl, s, hS, hl4, hgl, hg, hk, hka, hll, hl⟩
      refine wS_cut (LO 23 ns) ?_ ?_
      · have c12 : cPow 10 12 = true := by decide
        simp [c12]
        rw [w_addL (get_old hk) get_last]
        refine ⟨by simp; omega, ?_⟩
        refine ⟨a, b, _, S, g, gs, _, _, _, _, _, _, _, _, _, _, _, _, _, _, rfl, s.app.app, hS, hl4, hgl, hg, get_last, by have := s.la; simp; omega, by simp; omega, fun d hd => ?_⟩
        rcases List.mem_append.mp hd with e | e
        · exact hl d e
        · simp only [List.mem_cons, List.not_mem_nil, or_false] at e
          rcases e with rfl | rfl | rfl <;> exact dbB_ok 6 _ (by decide +kernel)
      clear s
      rintro env M ⟨a, b, k, S, g, gs, l, v0, v2, v5, v7, v9, v10, v11, v12, v13, v14, v15, v16, v17, rfl, s, hS, hl4, hgl, hg, hk, hka, hll, hl⟩
      have whole : ∀ l : List MV, l.length ≤ 100 → (∀ d ∈ l, d ∈ g :: gs ∨ Db 100 V9 5 d) → Db 100 V9 6 (.tup l) := fun l h1 h2 => .tup h1 fun d hd => by
        rcases h2 d hd with e | e
        · exact (hg d e).mono (by decide) (by decide) _ (by decide)
        · exact e
      have hgl2 : gs.length + 1 ≤ 10 := hgl
      have plus : ∀ x : MV, Db 100 V9 5 x → Db 100 V9 6 (.tup (g :: (gs ++ [x]))) := fun x hx => whole _ (by simp; omega) fun d hd => by
        simp only [List.mem_cons, List.mem_append, List.not_mem_nil, or_false] at hd ⊢
        rcases hd with e | e | e
        · exact .inl (.inl e)
        · exact .inl (.inr e)
        · rw [e]; exact .inr hx
      refine wS_cut (LO 26 ns) ?_ ?_
      · simp
        refine ⟨by omega, ?_⟩
        rw [w_addL (get_old hk) get_last]
        refine ⟨by simp; omega, ?_⟩
        refine ⟨a, b, _, S, g, gs, _, _, _, _, _, _, _, _, _, _, _, _, _, _, rfl, s.app.app, hS, hl4, hgl, hg, get_last, by have := s.la; simp; omega, by simp; omega, fun d hd => ?_⟩
        rcases List.mem_append.mp hd with e | e
        · exact hl d e
        · simp only [List.mem_cons, List.not_mem_nil, or_false] at e
          rcases e with rfl | rfl | rfl
          · exact plus _ (dbB_ok 5 _ (by decide +kernel))
          · exact plus _ (dbB_ok 5 _ (by decide +kernel))
          · exact plus _ (dbB_ok 5 _ (by decide +kernel))
      clear s whole hgl2 plus
      rintro env M ⟨a, b, k, S, g, gs, l, v0, v2, v5, v7, v9, v10, v11, v12, v13, v14, v15, v16, v17, rfl, s, hS, hl4, hgl, hg, hk, hka, hll, hl⟩
      refine wS_cut (LO 28 ns) ?_ ?_
      · have c12 : cPow 10 12 = true := by decide
        simp [c12]
        rw [w_addL (get_old hk) get_last]
        refine ⟨by simp; omega, ?_⟩
        refine ⟨a, b, _, S, g, gs, _, _, _, _, _, _, _, _, _, _, _, _, _, _, rfl, s.app.app, hS, hl4, hgl, hg, get_last, by have := s.la; simp; omega, by simp; omega, fun d hd => ?_⟩
        rcases List.mem_append.mp hd with e | e
        · exact hl d e
        · simp only [List.mem_cons, List.not_mem_nil, or_false] at e
          rcases e with rfl | rfl <;> exact dbB_ok 6 _ (by decide +kernel)
      clear s
      rintro env M ⟨a, b, k, S, g, gs, l, v0, v2, v5, v7, v9, v10, v11, v12, v13, v14, v15, v16, v17, rfl, s, hS, hl4, hgl, hg, hk, hka, hll, hl⟩
      refine wS_cut (LO 44 ns) ?_ ?_
      · have hgd : Db 20 W9 3 (.tup (g :: gs)) := .tup (by omega) hg
        have h16 : in62 16 = true := by decide
        simp [h16, wipeE]
        obtain ⟨u0, hu0⟩ := s.self
        refine w_lcR (fun j acc M' => ∃ (u : Int × Int × Int), acc.length = j ∧ (∀ d ∈ acc, Db 100 V9 6 d) ∧ M' = M.set a (sto b u)) ⟨u0, rfl, by simp, hu0.symm⟩ ?_ ?_
        · rintro j acc M' hj ⟨u, hla, hd, rfl⟩
          simp
          refine bent_ok (n := 49) (z := 20) (w := W9) (by decide) (by decide) (by decide) 3 _ hgd (s.set u) fun e u2 he => ?_
          refine ⟨by omega, hla, fun d hm => ?_, u2.1, u2.2.1, u2.2.2, by simp⟩
          rcases hm with q | q
          · exact hd d q
          · rw [q]
            exact he.mono (by decide) (by decide) _ (by decide)
        · rintro acc M' ⟨u, hla, hd, rfl⟩
          have hk2 : (M.set a (sto b u))[k]? = some (.lst l) := by rw [List.getElem?_set_ne (Ne.symm hka)]; exact hk
          rw [w_addL (get_old hk2) get_last]
          refine ⟨by rw [SL_eq]; omega, ?_⟩
          refine ⟨a, b, _, S, g, gs, _, _, _, _, _, _, _, _, _, _, _, _, _, _, rfl, (s.set u).app.app, hS, hl4, hgl, hg, get_last, by have := s.la; simp; omega, by simp; omega, fun d hm => ?_⟩
          rcases List.mem_append.mp hm with e | e
          · exact hl d e
          · exact hd d e
      clear s
      rintro env M ⟨a, b, k, S, g, gs, l, v0, v2, v5, v7, v9, v10, v11, v12, v13, v14, v15, v16, v17, rfl, s, hS, hl4, hgl, hg, hk, hka, hll, hl⟩
      have hodd : ∀ (S' : Sz), S'.sm → ∀ d, Db 100 V9 6 d → ∀ (H : Hm) (Q : MV → Hm → Prop) (E : MX → Hm → Prop), wp (run tab 55 f_is_code [d, .int S'.inner, .int S'.slots, .int S'.called, .tup (S'.locks.map MV.int), .int S'.ways] H) Q E = Q (.bl (codeB S' d)) H := fun S' h' d hd H Q E => is_code_ok (n := 50) h'.ok hd (by decide) (by decide)
      have hright : ∀ (S' : Sz), S'.sm → ∀ d, Db 100 V9 6 d → ∀ (H : Hm) (Q : MV → Hm → Prop) (E : MX → Hm → Prop), wp (run tab 55 f__law_is_right [d, S'.tp] H) Q E = Q (.bl (codeB S' d)) H := fun S' h' d hd H Q E => law_is_right_ok (n := 51) h'.ok hd (by decide) (by decide)
      simp only [wS_for, w_iA, w_var, rdE_s, rdE_0, rdIt_ref]
      rw [rdL_of hk]
      refine wS_forP (l := l) (fun p env M' => ∃ (v0 v2 v5 v7 v9 v10 v11 v12 v13 v14 v15 v16 v17 : Option MV), env = [v0, some (.ref a), v2, some (.tup (S.locks.map MV.int)), some S.tp, v5, some (.tup (g :: gs)), v7, some (.ref k), v9, v10, v11, v12, v13, v14, v15, v16, v17] ∧ Sta M' a b ns ∧ M'[k]? = some (.lst l)) ⟨_, _, _, _, _, _, _, _, _, _, _, _, _, rfl, s, hk⟩ ?_ ?_ ?_
      · rintro p env M' ⟨v0, v2, v5, v7, v9, v10, v11, v12, v13, v14, v15, v16, v17, rfl, s, hk⟩
        exact wk_L hk
      · clear s hk
        rintro p d r env M he ⟨v0, v2, v5, v7, v9, v10, v11, v12, v13, v14, v15, v16, v17, rfl, s, hk⟩
        have hd : Db 100 V9 6 d := hl d (by rw [he]; simp)
        have hc3 : cut [MV.int S.inner, MV.int S.slots, MV.int S.called, MV.tup (S.locks.map MV.int), MV.int S.ways] none (some 3) = [MV.int S.inner, MV.int S.slots, MV.int S.called] := cut_to _ 3
        have hc2 : cut [MV.int S.inner, MV.int S.slots, MV.int S.called, MV.tup (S.locks.map MV.int), MV.int S.ways] (some 2) none = [MV.int S.called, MV.tup (S.locks.map MV.int), MV.int S.ways] := cut_from _ 2
        rw [w_gN]
        simp [Sz.tp, hc3, hc2]
        refine ⟨by omega, ?_⟩
        have h3 : ∀ d' ∈ [MV.tup [MV.int S.inner, MV.int S.slots, MV.int S.called, MV.tup (S.locks.map MV.int), MV.int S.ways], MV.tup [MV.int S.inner, MV.int S.slots, MV.int S.called, MV.tup (MV.int 1 :: S.locks.map MV.int), MV.int 1], MV.tup [MV.int S.inner, MV.int (if 1 < S.slots then S.slots - 1 else 0), MV.int S.called, MV.tup (S.locks.map MV.int), MV.int S.ways]], ∃ S' : Sz, d' = S'.tp ∧ S'.sm := by
          have q1 := hS.inner
          have q2 := hS.slots
          have q3 := hS.called
          have q4 := hS.ways
          have q5 := hS.locks.2
          intro d' hd'
          simp only [List.mem_cons, List.not_mem_nil, or_false] at hd'
          rcases hd' with rfl | rfl | rfl
          · exact ⟨S, rfl, hS⟩
          · refine ⟨⟨S.inner, S.slots, S.called, 1 :: S.locks, 1⟩, rfl, q1, q2, q3, ⟨(show (0 : Int) ≤ 1 by decide), (show (1 : Int) < 10 by decide)⟩, by simp; omega, fun i hi => ?_⟩
            rcases List.mem_cons.mp hi with e | e
            · rw [e]; decide
            · exact q5 i e
          · refine ⟨⟨S.inner, if 1 < S.slots then S.slots - 1 else 0, S.called, S.locks, S.ways⟩, rfl, q1, ?_, q3, q4, by show S.locks.length ≤ 5; omega, q5⟩
            show 0 ≤ (if 1 < S.slots then S.slots - 1 else 0) ∧ (if 1 < S.slots then S.slots - 1 else 0) < 10
            split <;> omega
        refine wS_forP (l := [MV.tup [MV.int S.inner, MV.int S.slots, MV.int S.called, MV.tup (S.locks.map MV.int), MV.int S.ways], MV.tup [MV.int S.inner, MV.int S.slots, MV.int S.called, MV.tup (MV.int 1 :: S.locks.map MV.int), MV.int 1], MV.tup [MV.int S.inner, MV.int (if 1 < S.slots then S.slots - 1 else 0), MV.int S.called, MV.tup (S.locks.map MV.int), MV.int S.ways]]) (fun p env M' => (∃ (v10 v11 : Option MV), env = [v0, some (.ref a), v2, some (.tup (S.locks.map MV.int)), some (MV.tup [MV.int S.inner, MV.int S.slots, MV.int S.called, MV.tup (S.locks.map MV.int), MV.int S.ways]), v5, some (.tup (g :: gs)), v7, some (.ref k), some d, v10, v11, v12, v13, v14, v15, v16, v17]) ∧ M' = M ++ [MO.lst [MV.tup [MV.int S.inner, MV.int S.slots, MV.int S.called, MV.tup (S.locks.map MV.int), MV.int S.ways], MV.tup [MV.int S.inner, MV.int S.slots, MV.int S.called, MV.tup (MV.int 1 :: S.locks.map MV.int), MV.int 1], MV.tup [MV.int S.inner, MV.int (if 1 < S.slots then S.slots - 1 else 0), MV.int S.called, MV.tup (S.locks.map MV.int), MV.int S.ways]]]) ⟨⟨v10, v11, rfl⟩, rfl⟩ ?_ ?_ ?_
        · rintro p env M' ⟨⟨v10, v11, rfl⟩, rfl⟩
          exact wk_L get_last
        · rintro p d' r env M' he' ⟨⟨v10, v11, rfl⟩, rfl⟩
          obtain ⟨S', rfl, hS'⟩ := h3 d' (by rw [he']; simp)
          have e1 := hodd S' hS' d hd
          have e2 := hright S' hS' d hd
          unfold Sz.tp at e2 ⊢
          simp [e1, e2]
          refine says_ok (n := 54) ?_
          simp
        · rintro env M' ⟨⟨v10, v11, rfl⟩, rfl⟩
          exact ⟨⟨_, _, _, _, _, _, _, _, _, _, _, _, _, rfl⟩, s.app, get_old hk⟩
      · rintro env M' ⟨v0, v2, v5, v7, v9, v10, v11, v12, v13, v14, v15, v16, v17, rfl, s, hk⟩
        exact ⟨a, b, _, _, _, _, _, _, _, _, _, _, _, _, _, _, _, _, _, rfl, s⟩
    clear s
    rintro env M ⟨a, b, v0, v2, v3, v4, v5, v6, v7, v8, v9, v10, v11, v12, v13, v14, v15, v16, v17, rfl, s⟩
    refine wS_cut (fun env M' => M' = M ∧ ∃ (v0 v1 v2 v3 v4 v5 v6 v7 v8 v9 v10 v11 v13 v14 v15 v16 v17 : Option MV), env = [v0, v1, v2, v3, v4, v5, v6, v7, v8, v9, v10, v11, some (.tup [.tup [.str [97, 100, 100]]]), v13, v14, v15, v16, v17]) ?_ ?_
    · simp
    rintro env M' ⟨rfl, v0, v1, v2, v3, v4, v5, v6, v7, v8, v9, v10, v11, v13, v14, v15, v16, v17, rfl⟩
    refine wS_cut (fun env M2 => M2 = M' ∧ ∃ (v0 v1 v2 v3 v4 v5 v6 v7 v8 v9 v10 v11 v12 v13 v14 v15 v16 v17 : Option MV), env = [v0, v1, v2, v3, v4, v5, v6, v7, v8, v9, v10, v11, v12, v13, v14, v15, v16, v17]) ?_ ?_
    · simp [-w_mulAT, add_400, add_401, add_ok4, add_ok5]
    rintro env M2 ⟨rfl, v0, v1, v2, v3, v4, v5, v6, v7, v8, v9, v10, v11, v12, v13, v14, v15, v16, v17, rfl⟩
    refine wS_cut (fun env M' => M' = M2 ∧ ∃ (v0 v1 v2 v3 v4 v5 v6 v7 v8 v9 v10 v11 v12 v14 v15 v16 v17 : Option MV), env = [v0, v1, v2, v3, v4, v5, v6, v7, v8, v9, v10, v11, v12, some (.str farT), v14, v15, v16, v17]) ?_ ?_
    · simp [-w_mulAS, nines_is]
      exact ⟨by decide, by decide, rfl⟩
    rintro env M' ⟨rfl, v0, v1, v2, v3, v4, v5, v6, v7, v8, v9, v10, v11, v12, v14, v15, v16, v17, rfl⟩
    refine wS_cut (fun env M2 => M2 = M' ∧ ∃ (v0 v1 v2 v3 v4 v5 v6 v7 v8 v9 v10 v11 v12 v15 v16 v17 : Option MV), env = [v0, v1, v2, v3, v4, v5, v6, v7, v8, v9, v10, v11, v12, some (.str farT), some farD, v15, v16, v17]) ?_ ?_
    · simp [-w_mulAS, nines_is, farD]
      decide +kernel
    rintro env M2 ⟨rfl, v0, v1, v2, v3, v4, v5, v6, v7, v8, v9, v10, v11, v12, v15, v16, v17, rfl⟩
    refine wS_cut (fun env M' => M' = M2 ∧ ∃ (v0 v1 v2 v3 v4 v5 v6 v7 v8 v9 v10 v11 v12 v13 v14 v15 v16 v17 : Option MV), env = [v0, v1, v2, v3, v4, v5, v6, v7, v8, v9, v10, v11, v12, v13, v14, v15, v16, v17]) ?_ ?_
    · simp
      refine read_code_ok (n := 52) (t := farT) (by decide) (fun v hv => ?_) fun hv => ?_
      · rw [far_ok] at hv
        cases hv
        refine same_ok (n := 50) (z := 100) (w := 10000000000000000000000000000000) (by decide) 3 _ (dbB_ok 3 _ (by decide +kernel)) ?_
        simp
      · rw [far_ok] at hv
        cases hv
    rintro env M' ⟨rfl, v0, v1, v2, v3, v4, v5, v6, v7, v8, v9, v10, v11, v12, v13, v14, v15, v16, v17, rfl⟩
    refine wS_cut (LB badA) ?_ ?_
    · simp
      exact ⟨_, _, _, _, _, _, _, _, _, _, _, _, _, _, _, _, _, _, rfl, get_last⟩
    clear s
    rintro env M' ⟨k, v0, v1, v2, v3, v4, v5, v6, v7, v8, v9, v10, v11, v12, v13, v14, v16, v17, rfl, hk⟩
    refine wS_cut (LB (badA ++ badB)) ?_ ?_
    · simp
      rw [w_addL (get_old hk) get_last]
      exact ⟨by decide, _, _, _, _, _, _, _, _, _, _, _, _, _, _, _, _, _, _, rfl, get_last⟩
    clear hk
    rintro env M' ⟨k, v0, v1, v2, v3, v4, v5, v6, v7, v8, v9, v10, v11, v12, v13, v14, v16, v17, rfl, hk⟩
    refine wS_cut (LB (badA ++ badB ++ badC)) ?_ ?_
    · simp
      rw [w_addL (get_old hk) get_last]
      exact ⟨by decide, _, _, _, _, _, _, _, _, _, _, _, _, _, _, _, _, _, _, rfl, get_last⟩
    clear hk
    rintro env M' ⟨k, v0, v1, v2, v3, v4, v5, v6, v7, v8, v9, v10, v11, v12, v13, v14, v16, v17, rfl, hk⟩
    refine wS_cut (LB badT) ?_ ?_
    · simp
      rw [w_addL (get_old hk) get_last]
      exact ⟨by decide, _, _, _, _, _, _, _, _, _, _, _, _, _, _, _, _, _, _, rfl, get_last⟩
    clear hk
    rintro env M' ⟨k, v0, v1, v2, v3, v4, v5, v6, v7, v8, v9, v10, v11, v12, v13, v14, v16, v17, rfl, hk⟩
    simp [rdL_of hk, wipeE]
    have hlb : (badT.map MV.str).length = badT.length := by simp
    have key := fun {Ql} {E} {ee} {env} {M : Hm} (hw) (hs) (h) => w_lcM (Ql := Ql) (E := E) (M := M) (e := ee) (env := env) (g := gN 17) (ni := nL k) (l := badT.map MV.str) (fun _ => .bl true) hw (by decide) hs h
    rw [hlb] at key
    refine key (wk_L hk) (fun d hd => ?_) ?_
    · obtain ⟨t, ht, rfl⟩ := List.mem_map.mp hd
      simp
      exact refuses_ok (n := 51) (bad_len t ht) (bad_none t ht) ⟨rfl, rfl⟩
    · have e : boolsOf ((badT.map MV.str).map fun _ => MV.bl true) = some (badT.map fun _ => true) := by decide +kernel
      rw [rdO_of e]
      simp
      rw [show (badT.all fun _ => true) = true by rfl]
      have h := gcQ_app (M := []) (G := M') (d := MV.bl true) (Q := fun v _ => v = MV.bl true) rfl
      rw [List.nil_append] at h
      rw [h]
  exact ⟨M, h⟩
end K09
set_option maxRecDepth 100000
/-! The end (printed by gen.py). -/
namespace K09
open PySem PySem.Spec PyProof.Rows L2 Mi
set_option maxHeartbeats 0 in
theorem all_mk {P : Program} {w : World} {K : PySem.W.Frag} {h : Heap} {mg : Str → Option Value} {fa : Addr} (X : K.In h) (G : h.Ns mainGlobals mg) (hfa : mg "law" = some (.ref fa))
    (F0 : ∃ f, FunAt K "is_integer" st0 f)
    (F1 : ∃ f, FunAt K "is_tuple" st1 f)
    (F2 : ∃ f, FunAt K "is_small" st2 f)
    (F3 : ∃ f, FunAt K "are_slots" st3 f)
    (F4 : ∃ f, FunAt K "is_row" st4 f)
    (F5 : ∃ f, FunAt K "is_code" st5 f)
    (F6 : ∃ f, FunAt K "write_integer" st6 f)
    (F7 : ∃ f, FunAt K "read_integer" st7 f)
    (F8 : ∃ f, FunAt K "row_text" st8 f)
    (F9 : ∃ f, FunAt K "write_code" st9 f)
    (F10 : ∃ f, FunAt K "read_row" st10 f)
    (F11 : ∃ f, FunAt K "read_code" st11 f)
    (F12 : ∃ f, FunAt K "_law_start" st12 f)
    (F13 : ∃ f, FunAt K "_law_draw" st13 f)
    (F14 : ∃ f, FunAt K "_law_one_of" st14 f)
    (F15 : ∃ f, FunAt K "_law_shuffled" st15 f)
    (F16 : ∃ f, FunAt K "_law_is_int" st16 f)
    (F17 : ∃ f, FunAt K "_law_same" st17 f)
    (F18 : ∃ f, FunAt K "_law_says" st18 f)
    (F19 : ∃ f, FunAt K "_law_bent" st19 f)
    (F20 : ∃ f, FunAt K "_law_some_row" st20 f)
    (F21 : ∃ f, FunAt K "_law_is_below" st21 f)
    (F22 : ∃ f, FunAt K "_law_is_row" st22 f)
    (F23 : ∃ f, FunAt K "_law_is_right" st23 f)
    (F24 : ∃ f, FunAt K "_law_row_text" st24 f)
    (F25 : ∃ f, FunAt K "_law_refuses" st25 f)
    (F26 : ∃ f, FunAt K "law" st26 f)
    (n_abs : PySem.W.nsIn K mainGlobals "abs" = some none)
    (n_all : PySem.W.nsIn K mainGlobals "all" = some none)
    (n_bool : PySem.W.nsIn K mainGlobals "bool" = some none)
    (n_divmod : PySem.W.nsIn K mainGlobals "divmod" = some none)
    (n_int : PySem.W.nsIn K mainGlobals "int" = some none)
    (n_isinstance : PySem.W.nsIn K mainGlobals "isinstance" = some none)
    (n_len : PySem.W.nsIn K mainGlobals "len" = some none)
    (n_list : PySem.W.nsIn K mainGlobals "list" = some none)
    (n_max : PySem.W.nsIn K mainGlobals "max" = some none)
    (n_range : PySem.W.nsIn K mainGlobals "range" = some none)
    (n_set : PySem.W.nsIn K mainGlobals "set" = some none)
    (n_str : PySem.W.nsIn K mainGlobals "str" = some none)
    (n_sum : PySem.W.nsIn K mainGlobals "sum" = some none)
    (n_tuple : PySem.W.nsIn K mainGlobals "tuple" = some none)
    (k_BASE : ConstAt K mg "BASE" c_BASE)
    (k_CALL : ConstAt K mg "CALL" c_CALL)
    (k_DIGITS : ConstAt K mg "DIGITS" c_DIGITS)
    (k_MOST_CODE : ConstAt K mg "MOST_CODE" c_MOST_CODE)
    (k_MOST_NUMBER : ConstAt K mg "MOST_NUMBER" c_MOST_NUMBER)
    (w_SIZES : WD K w mg "SIZES" d_SIZES_)
    (g_KINDS : WDG K w mg "KINDS" d_KINDS_)
    (g_MANY : WDG K w mg "MANY" d_MANY_)
    (g_SIZES : WDG K w mg "SIZES" d_SIZES_)
    {c1 c2 : Addr}
    (x1 : PySem.W.nsIn K mainGlobals "AllgoonError" = some (some (.ref c1)))
    (q1 : PySem.W.excIn K c1 [.type "ValueError", .type "Exception", .type "BaseException", .type "object"] "ValueError.__new__" = true)
    (kp1 : PySem.W.keepIn K (.ref c1) = true)
    (sb1 : PySem.W.subIn K (.ref c1) (.type "BaseException") = some true)
    (ty1 : PySem.W.typeIn K (.ref c1) = some (.type "type"))
    (hd1 : PySem.W.hasDictIn K c1 = true)
    (x2 : PySem.W.nsIn K mainGlobals "BadText" = some (some (.ref c2)))
    (q2 : PySem.W.excIn K c2 [.type "ValueError", .type "Exception", .type "BaseException", .type "object"] "ValueError.__new__" = true)
    (kp2 : PySem.W.keepIn K (.ref c2) = true)
    (sb2 : PySem.W.subIn K (.ref c2) (.type "BaseException") = some true)
    (ty2 : PySem.W.typeIn K (.ref c2) = some (.type "type"))
    (hd2 : PySem.W.hasDictIn K c2 = true)
    (s_1_2 : PySem.W.subIn K (.ref c1) (.ref c2) = some false)
    (s_2_2 : PySem.W.subIn K (.ref c2) (.ref c2) = some true)
    {c0 : Addr}
    (x0 : PySem.W.nsIn K mainGlobals "Sizes" = some (some (.ref c0)))
    (pg0 : PySem.W.plainGet K c0 Str.empty = true)
    (hd0 : PySem.W.hasDictIn K c0 = true)
    (po0 : PySem.W.plainOver K c0 = true)
    (sa0 : PySem.W.findIn K (.ref c0) "__setattr__" = some (some (.builtin "object.__setattr__")))
    (mk0 : PySem.W.makesIn K c0 = true)
    (kc0 : PySem.W.keepIn K (.ref c0) = true)
    (na0_bounds : PySem.W.findIn K (.ref c0) "bounds" = some none)
    (na0_functions : PySem.W.findIn K (.ref c0) "functions" = some none)
    (na0_locks : PySem.W.findIn K (.ref c0) "locks" = some none)
    (na0_slots : PySem.W.findIn K (.ref c0) "slots" = some none)
    (M27 : ∃ f, MthAt K c0 "__init__" "Sizes.__init__" st27 f)
    (M28 : ∃ f, MthAt K c0 "fits" "Sizes.fits" st28 f) :
    ∃ fd : FuncData, (∀ (s : Shared) (u : Value), BindsTo s fd ⟨[u], []⟩ [("script", u)]) ∧ ∀ base : Heap, K.In base → base.Ns mainGlobals mg → FnOk P w K mg base (L2.CX P w) 114 fa fd ["script"] (spLaw K) := by
  obtain ⟨f0, a0, u0, F0⟩ := F0
  obtain ⟨f1, a1, u1, F1⟩ := F1
  obtain ⟨f2, a2, u2, F2⟩ := F2
  obtain ⟨f3, a3, u3, F3⟩ := F3
  obtain ⟨f4, a4, u4, F4⟩ := F4
  obtain ⟨f5, a5, u5, F5⟩ := F5
  obtain ⟨f6, a6, u6, F6⟩ := F6
  obtain ⟨f7, a7, u7, F7⟩ := F7
  obtain ⟨f8, a8, u8, F8⟩ := F8
  obtain ⟨f9, a9, u9, F9⟩ := F9
  obtain ⟨f10, a10, u10, F10⟩ := F10
  obtain ⟨f11, a11, u11, F11⟩ := F11
  obtain ⟨f12, a12, u12, F12⟩ := F12
  obtain ⟨f13, a13, u13, F13⟩ := F13
  obtain ⟨f14, a14, u14, F14⟩ := F14
  obtain ⟨f15, a15, u15, F15⟩ := F15
  obtain ⟨f16, a16, u16, F16⟩ := F16
  obtain ⟨f17, a17, u17, F17⟩ := F17
  obtain ⟨f18, a18, u18, F18⟩ := F18
  obtain ⟨f19, a19, u19, F19⟩ := F19
  obtain ⟨f20, a20, u20, F20⟩ := F20
  obtain ⟨f21, a21, u21, F21⟩ := F21
  obtain ⟨f22, a22, u22, F22⟩ := F22
  obtain ⟨f23, a23, u23, F23⟩ := F23
  obtain ⟨f24, a24, u24, F24⟩ := F24
  obtain ⟨f25, a25, u25, F25⟩ := F25
  obtain ⟨f26, a26, u26, F26⟩ := F26
  obtain ⟨f27, m27, u27, F27⟩ := M27
  obtain ⟨f28, m28, u28, F28⟩ := M28
  have e := hfa.symm.trans (PySem.W.mg_of X G a26)
  cases e
  let A : Nat → Addr := fun i => [f0, f1, f2, f3, f4, f5, f6, f7, f8, f9, f10, f11, f12, f13, f14, f15, f16, f17, f18, f19, f20, f21, f22, f23, f24, f25, fa, f27, f28].getD i 0
  let U : Nat → FuncData := fun i => [u0, u1, u2, u3, u4, u5, u6, u7, u8, u9, u10, u11, u12, u13, u14, u15, u16, u17, u18, u19, u20, u21, u22, u23, u24, u25, u26, u27, u28].getD i u26
  let cA : Nat → Addr := fun i => [c0, c1, c2].getD i 0
  have T : Txt w cA K mg A := {
    hK := trivial,
    g_is_integer := PySem.W.mg_of X G a0,
    g_is_tuple := PySem.W.mg_of X G a1,
    g_is_small := PySem.W.mg_of X G a2,
    g_are_slots := PySem.W.mg_of X G a3,
    g_is_row := PySem.W.mg_of X G a4,
    g_is_code := PySem.W.mg_of X G a5,
    g_write_integer := PySem.W.mg_of X G a6,
    g_read_integer := PySem.W.mg_of X G a7,
    g_row_text := PySem.W.mg_of X G a8,
    g_write_code := PySem.W.mg_of X G a9,
    g_read_row := PySem.W.mg_of X G a10,
    g_read_code := PySem.W.mg_of X G a11,
    g__law_start := PySem.W.mg_of X G a12,
    g__law_draw := PySem.W.mg_of X G a13,
    g__law_one_of := PySem.W.mg_of X G a14,
    g__law_shuffled := PySem.W.mg_of X G a15,
    g__law_is_int := PySem.W.mg_of X G a16,
    g__law_same := PySem.W.mg_of X G a17,
    g__law_says := PySem.W.mg_of X G a18,
    g__law_bent := PySem.W.mg_of X G a19,
    g__law_some_row := PySem.W.mg_of X G a20,
    g__law_is_below := PySem.W.mg_of X G a21,
    g__law_is_row := PySem.W.mg_of X G a22,
    g__law_is_right := PySem.W.mg_of X G a23,
    g__law_row_text := PySem.W.mg_of X G a24,
    g__law_refuses := PySem.W.mg_of X G a25,
    n_abs := PySem.W.mg_none_of X G n_abs,
    n_all := PySem.W.mg_none_of X G n_all,
    n_bool := PySem.W.mg_none_of X G n_bool,
    n_divmod := PySem.W.mg_none_of X G n_divmod,
    n_int := PySem.W.mg_none_of X G n_int,
    n_isinstance := PySem.W.mg_none_of X G n_isinstance,
    n_len := PySem.W.mg_none_of X G n_len,
    n_list := PySem.W.mg_none_of X G n_list,
    n_max := PySem.W.mg_none_of X G n_max,
    n_range := PySem.W.mg_none_of X G n_range,
    n_set := PySem.W.mg_none_of X G n_set,
    n_str := PySem.W.mg_none_of X G n_str,
    n_sum := PySem.W.mg_none_of X G n_sum,
    n_tuple := PySem.W.mg_none_of X G n_tuple,
    c_BASE := k_BASE,
    c_CALL := k_CALL,
    c_DIGITS := k_DIGITS,
    c_MOST_CODE := k_MOST_CODE,
    c_MOST_NUMBER := k_MOST_NUMBER,
    w_SIZES := w_SIZES,
    k_KINDS := g_KINDS,
    k_MANY := g_MANY,
    k_SIZES := g_SIZES,
    x_BadText := PySem.W.mg_of X G x2,
    e_AllgoonError := ⟨q1, kp1, sb1, ty1⟩,
    e_BadText := ⟨q2, kp2, sb2, ty2⟩,
    x_Sizes := PySem.W.mg_of X G x0,
    mk_Sizes := ⟨mk0, m27.at_, m27.fn, kc0⟩,
    cl_Sizes := ⟨pg0, hd0, po0, sa0⟩,
    na_Sizes_bounds := na0_bounds,
    na_Sizes_functions := na0_functions,
    na_Sizes_locks := na0_locks,
    na_Sizes_slots := na0_slots,
    m_Sizes_fits := m28,
    s_BadText := fun j b h => by
      match j, h with
      | 1, h => cases h; exact PySem.W.exm_ref sb2 hd2 ty2 s_1_2
      | 2, h => cases h; exact PySem.W.exm_ref sb2 hd2 ty2 s_2_2
      | j + 3, h => simp [sub_BadText] at h }
  refine ⟨u26, bind1 F26 fun _ _ _ _ _ _ _ => rfl, fun base _ _ => law_ok (C := ⟨K, cA⟩) (n := 56) (f := 26) keeps (all_ok (ent := ent A U) (tab := tab) ?_ 56 26 _ rfl) rfl⟩
  intro f e he
  match f, he with
  | 0, he => cases he; exact ⟨d_is_integer, rfl, ⟨F0, sc0, rfl, rfl, F0.binds (ps := P0) (fun _ _ _ _ _ _ us hl => match us, hl with | [_], _ => rfl), bd0 T⟩⟩
  | 1, he => cases he; exact ⟨d_is_tuple, rfl, ⟨F1, sc1, rfl, rfl, F1.binds (ps := P1) (fun _ _ _ _ _ _ us hl => match us, hl with | [_, _], _ => rfl), bd1 T⟩⟩
  | 2, he => cases he; exact ⟨d_is_small, rfl, ⟨F2, sc2, rfl, rfl, F2.binds (ps := P2) (fun _ _ _ _ _ _ us hl => match us, hl with | [_], _ => rfl), bd2 T⟩⟩
  | 3, he => cases he; exact ⟨d_are_slots, rfl, ⟨F3, sc3, rfl, rfl, F3.binds (ps := P3) (fun _ _ _ _ _ _ us hl => match us, hl with | [_, _], _ => rfl), bd3 T⟩⟩
  | 4, he => cases he; exact ⟨d_is_row, rfl, ⟨F4, sc4, rfl, rfl, F4.binds (ps := P4) (fun _ _ _ _ _ _ us hl => match us, hl with | [_], _ => rfl), bd4 T⟩⟩
  | 5, he => cases he; exact ⟨d_is_code, rfl, ⟨F5, sc5, rfl, rfl, F5.binds (ps := P5) (fun _ _ _ _ _ _ us hl => match us, hl with | [_, _, _, _, _, _], _ => rfl), bd5 T⟩⟩
  | 6, he => cases he; exact ⟨d_write_integer, rfl, ⟨F6, sc6, rfl, rfl, F6.binds (ps := P6) (fun _ _ _ _ _ _ us hl => match us, hl with | [_], _ => rfl), bd6 T⟩⟩
  | 7, he => cases he; exact ⟨d_read_integer, rfl, ⟨F7, sc7, rfl, rfl, F7.binds (ps := P7) (fun _ _ _ _ _ _ us hl => match us, hl with | [_], _ => rfl), bd7 T⟩⟩
  | 8, he => cases he; exact ⟨d_row_text, rfl, ⟨F8, sc8, rfl, rfl, F8.binds (ps := P8) (fun _ _ _ _ _ _ us hl => match us, hl with | [_], _ => rfl), bd8 T⟩⟩
  | 9, he => cases he; exact ⟨d_write_code, rfl, ⟨F9, sc9, rfl, rfl, F9.binds (ps := P9) (fun _ _ _ _ _ _ us hl => match us, hl with | [_], _ => rfl), bd9 T⟩⟩
  | 10, he => cases he; exact ⟨d_read_row, rfl, ⟨F10, sc10, rfl, rfl, F10.binds (ps := P10) (fun _ _ _ _ _ _ us hl => match us, hl with | [_], _ => rfl), bd10 T⟩⟩
  | 11, he => cases he; exact ⟨d_read_code, rfl, ⟨F11, sc11, rfl, rfl, F11.binds (ps := P11) (fun _ _ _ _ _ _ us hl => match us, hl with | [_], _ => rfl), bd11 T⟩⟩
  | 12, he => cases he; exact ⟨d__law_start, rfl, ⟨F12, sc12, rfl, rfl, F12.binds (ps := P12) (fun _ _ _ _ _ _ us hl => match us, hl with | [_], _ => rfl), bd12 T⟩⟩
  | 13, he => cases he; exact ⟨d__law_draw, rfl, ⟨F13, sc13, rfl, rfl, F13.binds (ps := P13) (fun _ _ _ _ _ _ us hl => match us, hl with | [_, _], _ => rfl), bd13 T⟩⟩
  | 14, he => cases he; exact ⟨d__law_one_of, rfl, ⟨F14, sc14, rfl, rfl, F14.binds (ps := P14) (fun _ _ _ _ _ _ us hl => match us, hl with | [_, _], _ => rfl), bd14 T⟩⟩
  | 15, he => cases he; exact ⟨d__law_shuffled, rfl, ⟨F15, sc15, rfl, rfl, F15.binds (ps := P15) (fun _ _ _ _ _ _ us hl => match us, hl with | [_, _], _ => rfl), bd15 T⟩⟩
  | 16, he => cases he; exact ⟨d__law_is_int, rfl, ⟨F16, sc16, rfl, rfl, F16.binds (ps := P16) (fun _ _ _ _ _ _ us hl => match us, hl with | [_], _ => rfl), bd16 T⟩⟩
  | 17, he => cases he; exact ⟨d__law_same, rfl, ⟨F17, sc17, rfl, rfl, F17.binds (ps := P17) (fun _ _ _ _ _ _ us hl => match us, hl with | [_, _], _ => rfl), bd17 T⟩⟩
  | 18, he => cases he; exact ⟨d__law_says, rfl, ⟨F18, sc18, rfl, rfl, F18.binds (ps := P18) (fun _ _ _ _ _ _ us hl => match us, hl with | [_, _], _ => rfl), bd18 T⟩⟩
  | 19, he => cases he; exact ⟨d__law_bent, rfl, ⟨F19, sc19, rfl, rfl, F19.binds (ps := P19) (fun _ _ _ _ _ _ us hl => match us, hl with | [_, _, _], _ => rfl), bd19 T⟩⟩
  | 20, he => cases he; exact ⟨d__law_some_row, rfl, ⟨F20, sc20, rfl, rfl, F20.binds (ps := P20) (fun _ _ _ _ _ _ us hl => match us, hl with | [_, _, _], _ => rfl), bd20 T⟩⟩
  | 21, he => cases he; exact ⟨d__law_is_below, rfl, ⟨F21, sc21, rfl, rfl, F21.binds (ps := P21) (fun _ _ _ _ _ _ us hl => match us, hl with | [_, _], _ => rfl), bd21 T⟩⟩
  | 22, he => cases he; exact ⟨d__law_is_row, rfl, ⟨F22, sc22, rfl, rfl, F22.binds (ps := P22) (fun _ _ _ _ _ _ us hl => match us, hl with | [_, _, _], _ => rfl), bd22 T⟩⟩
  | 23, he => cases he; exact ⟨d__law_is_right, rfl, ⟨F23, sc23, rfl, rfl, F23.binds (ps := P23) (fun _ _ _ _ _ _ us hl => match us, hl with | [_, _], _ => rfl), bd23 T⟩⟩
  | 24, he => cases he; exact ⟨d__law_row_text, rfl, ⟨F24, sc24, rfl, rfl, F24.binds (ps := P24) (fun _ _ _ _ _ _ us hl => match us, hl with | [_], _ => rfl), bd24 T⟩⟩
  | 25, he => cases he; exact ⟨d__law_refuses, rfl, ⟨F25, sc25, rfl, rfl, F25.binds (ps := P25) (fun _ _ _ _ _ _ us hl => match us, hl with | [_], _ => rfl), bd25 T⟩⟩
  | 26, he => cases he; exact ⟨d_law, rfl, ⟨F26, sc26, rfl, rfl, F26.binds (ps := P26) (fun _ _ _ _ _ _ us hl => match us, hl with | [_], _ => rfl), bd26 T⟩⟩
  | 27, he => cases he; exact ⟨d_Sizes___init__, rfl, ⟨F27, sc27, rfl, rfl, F27.binds (ps := P27) (fun _ _ _ _ _ _ us hl => match us, hl with | [_, _, _, _, _, _, _], _ => rfl), bd27 T⟩⟩
  | 28, he => cases he; exact ⟨d_Sizes_fits, rfl, ⟨F28, sc28, rfl, rfl, F28.binds (ps := P28) (fun _ _ _ _ _ _ us hl => match us, hl with | [_, _], _ => rfl), bd28 T⟩⟩
  | n + 29, he => cases he
end K09
open PySem PySem.W PyProof.Rows
set_option maxRecDepth 100000 in
set_option maxHeartbeats 0 in
theorem PySem.Challenge.cw_allgoon_k09_code_holds : PySem.Challenge.rw_allgoon_k09_code.Holds := by
  w_on; o_law; k_head; (case hw => w_witness2)
  k_fill
  refine Mi.walk_mi (k := 114) (x := "script") rfl rfl ⟨rfl, by decide, by decide⟩ (fun w h Y => PySem.W.kIn_of Y) ?_
  intro w mg fa h KX G XP hmg
  refine' K09.all_mk KX G hmg ?F0 ?F1 ?F2 ?F3 ?F4 ?F5 ?F6 ?F7 ?F8 ?F9 ?F10 ?F11 ?F12 ?F13 ?F14 ?F15 ?F16 ?F17 ?F18 ?F19 ?F20 ?F21 ?F22 ?F23 ?F24 ?F25 ?F26 ?n_abs ?n_all ?n_bool ?n_divmod ?n_int ?n_isinstance ?n_len ?n_list ?n_max ?n_range ?n_set ?n_str ?n_sum ?n_tuple ?k_BASE ?k_CALL ?k_DIGITS ?k_MOST_CODE ?k_MOST_NUMBER ?w_SIZES ?g_KINDS ?g_MANY ?g_SIZES ?x1 ?q1 ?kp1 ?sb1 ?ty1 ?hd1 ?x2 ?q2 ?kp2 ?sb2 ?ty2 ?hd2 ?s_1_2 ?s_2_2 ?x0 ?pg0 ?hd0 ?po0 ?sa0 ?mk0 ?kc0 ?na0_bounds ?na0_functions ?na0_locks ?na0_slots ?M27 ?M28
  (case F0 => refine' Mi.fun_at ?a ?l ?c ?k; (case a => k_is); (case l => k_is); (case c => k_is); (case k => k_is))
  (case F1 => refine' Mi.fun_at ?a ?l ?c ?k; (case a => k_is); (case l => k_is); (case c => k_is); (case k => k_is))
  (case F2 => refine' Mi.fun_at ?a ?l ?c ?k; (case a => k_is); (case l => k_is); (case c => k_is); (case k => k_is))
  (case F3 => refine' Mi.fun_at ?a ?l ?c ?k; (case a => k_is); (case l => k_is); (case c => k_is); (case k => k_is))
  (case F4 => refine' Mi.fun_at ?a ?l ?c ?k; (case a => k_is); (case l => k_is); (case c => k_is); (case k => k_is))
  (case F5 => refine' Mi.fun_at ?a ?l ?c ?k; (case a => k_is); (case l => k_is); (case c => k_is); (case k => k_is))
  (case F6 => refine' Mi.fun_at ?a ?l ?c ?k; (case a => k_is); (case l => k_is); (case c => k_is); (case k => k_is))
  (case F7 => refine' Mi.fun_at ?a ?l ?c ?k; (case a => k_is); (case l => k_is); (case c => k_is); (case k => k_is))
  (case F8 => refine' Mi.fun_at ?a ?l ?c ?k; (case a => k_is); (case l => k_is); (case c => k_is); (case k => k_is))
  (case F9 => refine' Mi.fun_at ?a ?l ?c ?k; (case a => k_is); (case l => k_is); (case c => k_is); (case k => k_is))
  (case F10 => refine' Mi.fun_at ?a ?l ?c ?k; (case a => k_is); (case l => k_is); (case c => k_is); (case k => k_is))
  (case F11 => refine' Mi.fun_at ?a ?l ?c ?k; (case a => k_is); (case l => k_is); (case c => k_is); (case k => k_is))
  (case F12 => refine' Mi.fun_at ?a ?l ?c ?k; (case a => k_is); (case l => k_is); (case c => k_is); (case k => k_is))
  (case F13 => refine' Mi.fun_at ?a ?l ?c ?k; (case a => k_is); (case l => k_is); (case c => k_is); (case k => k_is))
  (case F14 => refine' Mi.fun_at ?a ?l ?c ?k; (case a => k_is); (case l => k_is); (case c => k_is); (case k => k_is))
  (case F15 => refine' Mi.fun_at ?a ?l ?c ?k; (case a => k_is); (case l => k_is); (case c => k_is); (case k => k_is))
  (case F16 => refine' Mi.fun_at ?a ?l ?c ?k; (case a => k_is); (case l => k_is); (case c => k_is); (case k => k_is))
  (case F17 => refine' Mi.fun_at ?a ?l ?c ?k; (case a => k_is); (case l => k_is); (case c => k_is); (case k => k_is))
  (case F18 => refine' Mi.fun_at ?a ?l ?c ?k; (case a => k_is); (case l => k_is); (case c => k_is); (case k => k_is))
  (case F19 => refine' Mi.fun_at ?a ?l ?c ?k; (case a => k_is); (case l => k_is); (case c => k_is); (case k => k_is))
  (case F20 => refine' Mi.fun_at ?a ?l ?c ?k; (case a => k_is); (case l => k_is); (case c => k_is); (case k => k_is))
  (case F21 => refine' Mi.fun_at ?a ?l ?c ?k; (case a => k_is); (case l => k_is); (case c => k_is); (case k => k_is))
  (case F22 => refine' Mi.fun_at ?a ?l ?c ?k; (case a => k_is); (case l => k_is); (case c => k_is); (case k => k_is))
  (case F23 => refine' Mi.fun_at ?a ?l ?c ?k; (case a => k_is); (case l => k_is); (case c => k_is); (case k => k_is))
  (case F24 => refine' Mi.fun_at ?a ?l ?c ?k; (case a => k_is); (case l => k_is); (case c => k_is); (case k => k_is))
  (case F25 => refine' Mi.fun_at ?a ?l ?c ?k; (case a => k_is); (case l => k_is); (case c => k_is); (case k => k_is))
  (case F26 => refine' Mi.fun_at ?a ?l ?c ?k; (case a => k_is); (case l => k_is); (case c => k_is); (case k => k_is))
  (case n_abs => k_is)
  (case n_all => k_is)
  (case n_bool => k_is)
  (case n_divmod => k_is)
  (case n_int => k_is)
  (case n_isinstance => k_is)
  (case n_len => k_is)
  (case n_list => k_is)
  (case n_max => k_is)
  (case n_range => k_is)
  (case n_set => k_is)
  (case n_str => k_is)
  (case n_sum => k_is)
  (case n_tuple => k_is)
  (case k_BASE => exact Mi.const_loose XP (by simp))
  (case k_CALL => refine' Mi.const_str KX G ?a ?e; (case a => k_is); (case e => rfl))
  (case k_DIGITS => refine' Mi.const_str KX G ?a ?e; (case a => k_is); (case e => rfl))
  (case k_MOST_CODE => refine' Mi.const_int KX G ?a; (case a => k_is))
  (case k_MOST_NUMBER => exact Mi.const_loose XP (by simp))
  (case w_SIZES => refine' Mi.wd_of KX G ?a ?l ?k ?i; (case a => k_is); (case l => k_is); (case k => exact ⟨⟨_, _, rfl, rfl⟩, ⟨⟨_, _, rfl, rfl⟩, ⟨⟨_, _, rfl, rfl⟩, ⟨⟨_, _, rfl, rfl⟩, ⟨⟨_, _, rfl, rfl⟩, ⟨⟨_, _, rfl, rfl⟩, ⟨⟨_, _, rfl, rfl⟩, ⟨⟨_, _, rfl, rfl⟩, ⟨⟨_, _, rfl, rfl⟩, ⟨⟨_, _, rfl, rfl⟩, ⟨⟨_, _, rfl, rfl⟩, ⟨⟨_, _, rfl, rfl⟩, ⟨⟨_, _, rfl, rfl⟩, ⟨⟨_, _, rfl, rfl⟩, ⟨⟨_, _, rfl, rfl⟩, ⟨⟨_, _, rfl, rfl⟩, ⟨⟨_, _, rfl, rfl⟩, ⟨⟨_, _, rfl, rfl⟩, ⟨⟨_, _, rfl, rfl⟩, ⟨⟨_, _, rfl, rfl⟩, ⟨⟨_, _, rfl, rfl⟩, ⟨⟨_, _, rfl, rfl⟩, ⟨⟨_, _, rfl, rfl⟩, ⟨⟨_, _, rfl, rfl⟩, trivial⟩⟩⟩⟩⟩⟩⟩⟩⟩⟩⟩⟩⟩⟩⟩⟩⟩⟩⟩⟩⟩⟩⟩⟩); (case i => refine' Mi.wd_cons ?h24 ?c24 ?t24; (case h24 => k_is); (case c24 => exact Mi.cv_int); (case t24 => refine' Mi.wd_cons ?h23 ?c23 ?t23; (case h23 => k_is); (case c23 => exact Mi.cv_int); (case t23 => refine' Mi.wd_cons ?h22 ?c22 ?t22; (case h22 => k_is); (case c22 => exact Mi.cv_int); (case t22 => refine' Mi.wd_cons ?h21 ?c21 ?t21; (case h21 => k_is); (case c21 => exact Mi.cv_int); (case t21 => refine' Mi.wd_cons ?h20 ?c20 ?t20; (case h20 => k_is); (case c20 => exact Mi.cv_int); (case t20 => refine' Mi.wd_cons ?h19 ?c19 ?t19; (case h19 => k_is); (case c19 => exact Mi.cv_int); (case t19 => refine' Mi.wd_cons ?h18 ?c18 ?t18; (case h18 => k_is); (case c18 => exact Mi.cv_int); (case t18 => refine' Mi.wd_cons ?h17 ?c17 ?t17; (case h17 => k_is); (case c17 => exact Mi.cv_int); (case t17 => refine' Mi.wd_cons ?h16 ?c16 ?t16; (case h16 => k_is); (case c16 => exact Mi.cv_int); (case t16 => refine' Mi.wd_cons ?h15 ?c15 ?t15; (case h15 => k_is); (case c15 => exact Mi.cv_int); (case t15 => refine' Mi.wd_cons ?h14 ?c14 ?t14; (case h14 => k_is); (case c14 => exact Mi.cv_int); (case t14 => refine' Mi.wd_cons ?h13 ?c13 ?t13; (case h13 => k_is); (case c13 => exact Mi.cv_int); (case t13 => refine' Mi.wd_cons ?h12 ?c12 ?t12; (case h12 => k_is); (case c12 => exact Mi.cv_int); (case t12 => refine' Mi.wd_cons ?h11 ?c11 ?t11; (case h11 => k_is); (case c11 => exact Mi.cv_int); (case t11 => refine' Mi.wd_cons ?h10 ?c10 ?t10; (case h10 => k_is); (case c10 => exact Mi.cv_int); (case t10 => refine' Mi.wd_cons ?h9 ?c9 ?t9; (case h9 => k_is); (case c9 => exact Mi.cv_int); (case t9 => refine' Mi.wd_cons ?h8 ?c8 ?t8; (case h8 => k_is); (case c8 => exact Mi.cv_int); (case t8 => refine' Mi.wd_cons ?h7 ?c7 ?t7; (case h7 => k_is); (case c7 => exact Mi.cv_int); (case t7 => refine' Mi.wd_cons ?h6 ?c6 ?t6; (case h6 => k_is); (case c6 => exact Mi.cv_int); (case t6 => refine' Mi.wd_cons ?h5 ?c5 ?t5; (case h5 => k_is); (case c5 => exact Mi.cv_int); (case t5 => refine' Mi.wd_cons ?h4 ?c4 ?t4; (case h4 => k_is); (case c4 => exact Mi.cv_int); (case t4 => refine' Mi.wd_cons ?h3 ?c3 ?t3; (case h3 => k_is); (case c3 => exact Mi.cv_int); (case t3 => refine' Mi.wd_cons ?h2 ?c2 ?t2; (case h2 => k_is); (case c2 => exact Mi.cv_int); (case t2 => refine' Mi.wd_cons ?h1 ?c1 ?t1; (case h1 => k_is); (case c1 => exact Mi.cv_int); (case t1 => exact Mi.wd_nil))))))))))))))))))))))))))
  (case g_KINDS => refine' Mi.wdg_of KX G ?a ?l ?k ?lo ?ka ?i; (case a => k_is); (case l => k_is); (case k => exact ⟨⟨_, _, rfl, rfl⟩, ⟨⟨_, _, rfl, rfl⟩, ⟨⟨_, _, rfl, rfl⟩, ⟨⟨_, _, rfl, rfl⟩, ⟨⟨_, _, rfl, rfl⟩, ⟨⟨_, _, rfl, rfl⟩, ⟨⟨_, _, rfl, rfl⟩, ⟨⟨_, _, rfl, rfl⟩, ⟨⟨_, _, rfl, rfl⟩, ⟨⟨_, _, rfl, rfl⟩, ⟨⟨_, _, rfl, rfl⟩, ⟨⟨_, _, rfl, rfl⟩, ⟨⟨_, _, rfl, rfl⟩, ⟨⟨_, _, rfl, rfl⟩, ⟨⟨_, _, rfl, rfl⟩, ⟨⟨_, _, rfl, rfl⟩, ⟨⟨_, _, rfl, rfl⟩, ⟨⟨_, _, rfl, rfl⟩, ⟨⟨_, _, rfl, rfl⟩, ⟨⟨_, _, rfl, rfl⟩, ⟨⟨_, _, rfl, rfl⟩, ⟨⟨_, _, rfl, rfl⟩, ⟨⟨_, _, rfl, rfl⟩, ⟨⟨_, _, rfl, rfl⟩, trivial⟩⟩⟩⟩⟩⟩⟩⟩⟩⟩⟩⟩⟩⟩⟩⟩⟩⟩⟩⟩⟩⟩⟩⟩); (case lo => rfl); (case ka => exact ⟨⟨_, _, rfl, rfl⟩, ⟨⟨_, _, rfl, rfl⟩, ⟨⟨_, _, rfl, rfl⟩, ⟨⟨_, _, rfl, rfl⟩, ⟨⟨_, _, rfl, rfl⟩, ⟨⟨_, _, rfl, rfl⟩, ⟨⟨_, _, rfl, rfl⟩, ⟨⟨_, _, rfl, rfl⟩, ⟨⟨_, _, rfl, rfl⟩, ⟨⟨_, _, rfl, rfl⟩, ⟨⟨_, _, rfl, rfl⟩, ⟨⟨_, _, rfl, rfl⟩, ⟨⟨_, _, rfl, rfl⟩, ⟨⟨_, _, rfl, rfl⟩, ⟨⟨_, _, rfl, rfl⟩, ⟨⟨_, _, rfl, rfl⟩, ⟨⟨_, _, rfl, rfl⟩, ⟨⟨_, _, rfl, rfl⟩, ⟨⟨_, _, rfl, rfl⟩, ⟨⟨_, _, rfl, rfl⟩, ⟨⟨_, _, rfl, rfl⟩, ⟨⟨_, _, rfl, rfl⟩, ⟨⟨_, _, rfl, rfl⟩, ⟨⟨_, _, rfl, rfl⟩, trivial⟩⟩⟩⟩⟩⟩⟩⟩⟩⟩⟩⟩⟩⟩⟩⟩⟩⟩⟩⟩⟩⟩⟩⟩); (case i => refine' Mi.wd_cons ?h48 ?c48 ?t48; (case h48 => k_is); (case c48 => exact Mi.cv_str rfl); (case t48 => refine' Mi.wd_cons ?h47 ?c47 ?t47; (case h47 => k_is); (case c47 => exact Mi.cv_str rfl); (case t47 => refine' Mi.wd_cons ?h46 ?c46 ?t46; (case h46 => k_is); (case c46 => exact Mi.cv_str rfl); (case t46 => refine' Mi.wd_cons ?h45 ?c45 ?t45; (case h45 => k_is); (case c45 => exact Mi.cv_str rfl); (case t45 => refine' Mi.wd_cons ?h44 ?c44 ?t44; (case h44 => k_is); (case c44 => exact Mi.cv_str rfl); (case t44 => refine' Mi.wd_cons ?h43 ?c43 ?t43; (case h43 => k_is); (case c43 => exact Mi.cv_str rfl); (case t43 => refine' Mi.wd_cons ?h42 ?c42 ?t42; (case h42 => k_is); (case c42 => exact Mi.cv_str rfl); (case t42 => refine' Mi.wd_cons ?h41 ?c41 ?t41; (case h41 => k_is); (case c41 => exact Mi.cv_str rfl); (case t41 => refine' Mi.wd_cons ?h40 ?c40 ?t40; (case h40 => k_is); (case c40 => exact Mi.cv_str rfl); (case t40 => refine' Mi.wd_cons ?h39 ?c39 ?t39; (case h39 => k_is); (case c39 => exact Mi.cv_str rfl); (case t39 => refine' Mi.wd_cons ?h38 ?c38 ?t38; (case h38 => k_is); (case c38 => exact Mi.cv_str rfl); (case t38 => refine' Mi.wd_cons ?h37 ?c37 ?t37; (case h37 => k_is); (case c37 => exact Mi.cv_str rfl); (case t37 => refine' Mi.wd_cons ?h36 ?c36 ?t36; (case h36 => k_is); (case c36 => exact Mi.cv_str rfl); (case t36 => refine' Mi.wd_cons ?h35 ?c35 ?t35; (case h35 => k_is); (case c35 => exact Mi.cv_str rfl); (case t35 => refine' Mi.wd_cons ?h34 ?c34 ?t34; (case h34 => k_is); (case c34 => exact Mi.cv_str rfl); (case t34 => refine' Mi.wd_cons ?h33 ?c33 ?t33; (case h33 => k_is); (case c33 => exact Mi.cv_str rfl); (case t33 => refine' Mi.wd_cons ?h32 ?c32 ?t32; (case h32 => k_is); (case c32 => exact Mi.cv_str rfl); (case t32 => refine' Mi.wd_cons ?h31 ?c31 ?t31; (case h31 => k_is); (case c31 => exact Mi.cv_str rfl); (case t31 => refine' Mi.wd_cons ?h30 ?c30 ?t30; (case h30 => k_is); (case c30 => exact Mi.cv_str rfl); (case t30 => refine' Mi.wd_cons ?h29 ?c29 ?t29; (case h29 => k_is); (case c29 => exact Mi.cv_str rfl); (case t29 => refine' Mi.wd_cons ?h28 ?c28 ?t28; (case h28 => k_is); (case c28 => exact Mi.cv_str rfl); (case t28 => refine' Mi.wd_cons ?h27 ?c27 ?t27; (case h27 => k_is); (case c27 => exact Mi.cv_str rfl); (case t27 => refine' Mi.wd_cons ?h26 ?c26 ?t26; (case h26 => k_is); (case c26 => exact Mi.cv_str rfl); (case t26 => refine' Mi.wd_cons ?h25 ?c25 ?t25; (case h25 => k_is); (case c25 => exact Mi.cv_str rfl); (case t25 => exact Mi.wd_nil))))))))))))))))))))))))))
  (case g_MANY => refine' Mi.wdg_of KX G ?a ?l ?k ?lo ?ka ?i; (case a => k_is); (case l => k_is); (case k => exact ⟨⟨_, _, rfl, rfl⟩, ⟨⟨_, _, rfl, rfl⟩, trivial⟩⟩); (case lo => rfl); (case ka => exact ⟨⟨_, _, rfl, rfl⟩, ⟨⟨_, _, rfl, rfl⟩, trivial⟩⟩); (case i => refine' Mi.wd_cons ?h50 ?c50 ?t50; (case h50 => k_is); (case c50 => exact Mi.cv_int); (case t50 => refine' Mi.wd_cons ?h49 ?c49 ?t49; (case h49 => k_is); (case c49 => exact Mi.cv_int); (case t49 => exact Mi.wd_nil))))
  (case g_SIZES => refine' Mi.wdg_of KX G ?a ?l ?k ?lo ?ka ?i; (case a => k_is); (case l => k_is); (case k => exact ⟨⟨_, _, rfl, rfl⟩, ⟨⟨_, _, rfl, rfl⟩, ⟨⟨_, _, rfl, rfl⟩, ⟨⟨_, _, rfl, rfl⟩, ⟨⟨_, _, rfl, rfl⟩, ⟨⟨_, _, rfl, rfl⟩, ⟨⟨_, _, rfl, rfl⟩, ⟨⟨_, _, rfl, rfl⟩, ⟨⟨_, _, rfl, rfl⟩, ⟨⟨_, _, rfl, rfl⟩, ⟨⟨_, _, rfl, rfl⟩, ⟨⟨_, _, rfl, rfl⟩, ⟨⟨_, _, rfl, rfl⟩, ⟨⟨_, _, rfl, rfl⟩, ⟨⟨_, _, rfl, rfl⟩, ⟨⟨_, _, rfl, rfl⟩, ⟨⟨_, _, rfl, rfl⟩, ⟨⟨_, _, rfl, rfl⟩, ⟨⟨_, _, rfl, rfl⟩, ⟨⟨_, _, rfl, rfl⟩, ⟨⟨_, _, rfl, rfl⟩, ⟨⟨_, _, rfl, rfl⟩, ⟨⟨_, _, rfl, rfl⟩, ⟨⟨_, _, rfl, rfl⟩, trivial⟩⟩⟩⟩⟩⟩⟩⟩⟩⟩⟩⟩⟩⟩⟩⟩⟩⟩⟩⟩⟩⟩⟩⟩); (case lo => rfl); (case ka => exact ⟨⟨_, _, rfl, rfl⟩, ⟨⟨_, _, rfl, rfl⟩, ⟨⟨_, _, rfl, rfl⟩, ⟨⟨_, _, rfl, rfl⟩, ⟨⟨_, _, rfl, rfl⟩, ⟨⟨_, _, rfl, rfl⟩, ⟨⟨_, _, rfl, rfl⟩, ⟨⟨_, _, rfl, rfl⟩, ⟨⟨_, _, rfl, rfl⟩, ⟨⟨_, _, rfl, rfl⟩, ⟨⟨_, _, rfl, rfl⟩, ⟨⟨_, _, rfl, rfl⟩, ⟨⟨_, _, rfl, rfl⟩, ⟨⟨_, _, rfl, rfl⟩, ⟨⟨_, _, rfl, rfl⟩, ⟨⟨_, _, rfl, rfl⟩, ⟨⟨_, _, rfl, rfl⟩, ⟨⟨_, _, rfl, rfl⟩, ⟨⟨_, _, rfl, rfl⟩, ⟨⟨_, _, rfl, rfl⟩, ⟨⟨_, _, rfl, rfl⟩, ⟨⟨_, _, rfl, rfl⟩, ⟨⟨_, _, rfl, rfl⟩, ⟨⟨_, _, rfl, rfl⟩, trivial⟩⟩⟩⟩⟩⟩⟩⟩⟩⟩⟩⟩⟩⟩⟩⟩⟩⟩⟩⟩⟩⟩⟩⟩); (case i => refine' Mi.wd_cons ?h74 ?c74 ?t74; (case h74 => k_is); (case c74 => exact Mi.cv_int); (case t74 => refine' Mi.wd_cons ?h73 ?c73 ?t73; (case h73 => k_is); (case c73 => exact Mi.cv_int); (case t73 => refine' Mi.wd_cons ?h72 ?c72 ?t72; (case h72 => k_is); (case c72 => exact Mi.cv_int); (case t72 => refine' Mi.wd_cons ?h71 ?c71 ?t71; (case h71 => k_is); (case c71 => exact Mi.cv_int); (case t71 => refine' Mi.wd_cons ?h70 ?c70 ?t70; (case h70 => k_is); (case c70 => exact Mi.cv_int); (case t70 => refine' Mi.wd_cons ?h69 ?c69 ?t69; (case h69 => k_is); (case c69 => exact Mi.cv_int); (case t69 => refine' Mi.wd_cons ?h68 ?c68 ?t68; (case h68 => k_is); (case c68 => exact Mi.cv_int); (case t68 => refine' Mi.wd_cons ?h67 ?c67 ?t67; (case h67 => k_is); (case c67 => exact Mi.cv_int); (case t67 => refine' Mi.wd_cons ?h66 ?c66 ?t66; (case h66 => k_is); (case c66 => exact Mi.cv_int); (case t66 => refine' Mi.wd_cons ?h65 ?c65 ?t65; (case h65 => k_is); (case c65 => exact Mi.cv_int); (case t65 => refine' Mi.wd_cons ?h64 ?c64 ?t64; (case h64 => k_is); (case c64 => exact Mi.cv_int); (case t64 => refine' Mi.wd_cons ?h63 ?c63 ?t63; (case h63 => k_is); (case c63 => exact Mi.cv_int); (case t63 => refine' Mi.wd_cons ?h62 ?c62 ?t62; (case h62 => k_is); (case c62 => exact Mi.cv_int); (case t62 => refine' Mi.wd_cons ?h61 ?c61 ?t61; (case h61 => k_is); (case c61 => exact Mi.cv_int); (case t61 => refine' Mi.wd_cons ?h60 ?c60 ?t60; (case h60 => k_is); (case c60 => exact Mi.cv_int); (case t60 => refine' Mi.wd_cons ?h59 ?c59 ?t59; (case h59 => k_is); (case c59 => exact Mi.cv_int); (case t59 => refine' Mi.wd_cons ?h58 ?c58 ?t58; (case h58 => k_is); (case c58 => exact Mi.cv_int); (case t58 => refine' Mi.wd_cons ?h57 ?c57 ?t57; (case h57 => k_is); (case c57 => exact Mi.cv_int); (case t57 => refine' Mi.wd_cons ?h56 ?c56 ?t56; (case h56 => k_is); (case c56 => exact Mi.cv_int); (case t56 => refine' Mi.wd_cons ?h55 ?c55 ?t55; (case h55 => k_is); (case c55 => exact Mi.cv_int); (case t55 => refine' Mi.wd_cons ?h54 ?c54 ?t54; (case h54 => k_is); (case c54 => exact Mi.cv_int); (case t54 => refine' Mi.wd_cons ?h53 ?c53 ?t53; (case h53 => k_is); (case c53 => exact Mi.cv_int); (case t53 => refine' Mi.wd_cons ?h52 ?c52 ?t52; (case h52 => k_is); (case c52 => exact Mi.cv_int); (case t52 => refine' Mi.wd_cons ?h51 ?c51 ?t51; (case h51 => k_is); (case c51 => exact Mi.cv_int); (case t51 => exact Mi.wd_nil))))))))))))))))))))))))))
  (case x1 => k_is)
  (case q1 => k_exc)
  (case kp1 => k_is)
  (case sb1 => k_is)
  (case ty1 => k_is)
  (case hd1 => k_is)
  (case x2 => k_is)
  (case q2 => k_exc)
  (case kp2 => k_is)
  (case sb2 => k_is)
  (case ty2 => k_is)
  (case hd2 => k_is)
  (case s_1_2 => first | k_is | rfl)
  (case s_2_2 => first | k_is | rfl)
  (case x0 => k_is)
  (case pg0 => k_is)
  (case hd0 => k_is)
  (case po0 => k_is)
  (case sa0 => k_is)
  (case mk0 => k_is)
  (case kc0 => k_is)
  (case na0_bounds => k_is)
  (case na0_functions => k_is)
  (case na0_locks => k_is)
  (case na0_slots => k_is)
  (case M27 => refine' Mi.mth_at ?a ?i ?l ?c ?k; (case a => k_is); (case i => k_is); (case l => k_is); (case c => k_is); (case k => k_is))
  (case M28 => refine' Mi.mth_at ?a ?i ?l ?c ?k; (case a => k_is); (case i => k_is); (case l => k_is); (case c => k_is); (case k => k_is))
