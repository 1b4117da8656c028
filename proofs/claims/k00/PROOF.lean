import PyProof.Rows.All
import Wide.All
import OpenK.AllK
import Wide.FinOn
import HandS.ForMost
import HandS.ForExc
import HandS.EndBits
import HandS.Wide
import HandS.WideBits
import HandS.Style
import HandS.TupAny
import HandS.StrMore
import HandS.IsInst
import HandS.ExcIs
import HandS.ExcField
import HandS.ExcSuper
import HandS.Text
import KE.IntTextLaws
import Wide.Loose
import KE.IntTextText
import PySem.Challenge.RW_allgoon_k00_integers_and_data
set_option Elab.async false
set_option linter.all false
set_option autoImplicit false
set_option maxRecDepth 100000
/-! A small language of values: what a def of the program does, as a plain function. -/
namespace Mi
/-- a text, as its codes -/
abbrev Tx := List Nat
inductive MV where
  | non | bl (b : Bool) | int (i : Int) | str (s : Tx) | tup (l : List MV) | ref (i : Nat) | rol (l : List MV)
  deriving Inhabited
inductive MO where
  | lst (l : List MV) | dic (l : List (MV × MV)) | ins (c : Nat) (fs : List (Tx × MV))
  deriving Inhabited
abbrev Hm := List MO
abbrev Env := List (Option MV)
/-- an error: its class, its own fields where it has a dict -/
structure MX where
  cls : Nat
  fs : Option (List (Tx × MV))
inductive R (α : Type) where
  | ok (a : α) (M : Hm) | exc (x : MX) (M : Hm) | bad
def R.bind {α β : Type} (r : R α) (f : α → Hm → R β) : R β := match r with
  | .ok a M => f a M
  | .exc x M => .exc x M
  | .bad => .bad
inductive O where
  | nx | brk | cnt | ret (d : MV)
inductive RS where
  | ok (o : O) (env : Env) (M : Hm) | exc (x : MX) (env : Env) (M : Hm) | bad
abbrev Fe := Env → Hm → R MV
abbrev Ft := Env → Hm → R Bool
abbrev Fs := Env → Hm → RS
abbrev Fa := Env → Hm → R (List MV)
/-- as bind, where nothing may be raised -/
def R.bindN {α β : Type} (r : R α) (f : α → Hm → R β) : R β := match r with
  | .ok a M => f a M
  | _ => .bad
theorem R.bindN_bind {α β γ : Type} (r : R α) (f : α → Hm → R β) (h : β → Hm → R γ) : (r.bindN f).bind h = r.bindN fun a M => (f a M).bind h := by
  cases r <;> rfl
/-- from an expression's end to a statement's -/
def R.st {α : Type} (r : R α) (env : Env) (f : α → Hm → RS) : RS := match r with
  | .ok a M => f a M
  | .exc x M => .exc x env M
  | .bad => .bad
abbrev SL : Nat := 16777216

/-! ### expressions -/
def eVar (i : Nat) : Fe := fun env M => match env[i]? with
  | some (some d) => .ok d M
  | _ => .bad
def eC (d : MV) : Fe := fun _ M => .ok d M
/-- two places, one place, on values -/
def eOp (f : MV → MV → Hm → R MV) (a b : Fe) : Fe := fun env M => (a env M).bind fun x M1 => (b env M1).bind fun y M2 => f x y M2
def eUn (f : MV → Hm → R MV) (a : Fe) : Fe := fun env M => (a env M).bind fun x M1 => f x M1
def aNil : Fa := fun _ M => .ok [] M
def aCons (a : Fe) (r : Fa) : Fa := fun env M => (a env M).bind fun x M1 => (r env M1).bind fun xs M2 => .ok (x :: xs) M2
def eTup (t : Fa) : Fe := fun env M => (t env M).bind fun xs M1 => if xs.length ≤ SL then .ok (.tup xs) M1 else .bad
def eLst (t : Fa) : Fe := fun env M => (t env M).bind fun xs M1 => if xs.length ≤ SL then .ok (.ref M1.length) (M1 ++ [.lst xs]) else .bad
/-- a built-in, a def, on values -/
def eFn (f : List MV → Hm → R MV) (t : Fa) : Fe := fun env M => (t env M).bind fun xs M1 => f xs M1
/-- a method of a built-in type -/
def eMt (f : MV → List MV → Hm → R MV) (o : Fe) (t : Fa) : Fe := fun env M => (o env M).bind fun x M1 => (t env M1).bind fun xs M2 => f x xs M2
def eIf (c : Ft) (a b : Fe) : Fe := fun env M => (c env M).bind fun k M1 => if k then a env M1 else b env M1
def eAnd (a b : Fe) : Fe := fun env M => (a env M).bind fun x M1 => match x with
  | .bl true => b env M1
  | .bl false => .ok (.bl false) M1
  | _ => .bad
def eOr (a b : Fe) : Fe := fun env M => (a env M).bind fun x M1 => match x with
  | .bl true => .ok (.bl true) M1
  | .bl false => b env M1
  | _ => .bad
/-- a test as a value -/
def eT (c : Ft) : Fe := fun env M => (c env M).bind fun k M1 => .ok (.bl k) M1
def truth (M : Hm) : MV → Option Bool
  | .non => some false
  | .bl b => some b
  | .int i => some (i != 0)
  | .str s => if s.length ≤ SL then some (!s.isEmpty) else none
  | .tup l => some (!l.isEmpty)
  | .ref i => match M[i]? with
    | some (.lst l) => some (!l.isEmpty)
    | some (.dic l) => some (!l.isEmpty)
    | _ => none
  | .rol l => some (!l.isEmpty)
def cV (a : Fe) : Ft := fun env M => (a env M).bind fun x M1 => match truth M1 x with
  | some b => .ok b M1
  | none => .bad
/-- a value that is a bool -/
def cB (a : Fe) : Ft := fun env M => (a env M).bind fun x M1 => match x with
  | .bl b => .ok b M1
  | _ => .bad
def cAnd (a b : Ft) : Ft := fun env M => (a env M).bind fun k M1 => if k then b env M1 else .ok false M1
def cOr (a b : Ft) : Ft := fun env M => (a env M).bind fun k M1 => if k then .ok true M1 else b env M1
def cNot (a : Ft) : Ft := fun env M => (a env M).bind fun k M1 => .ok (!k) M1

/-! ### what is walked -/
/-- what comes at turn k: none: it can't be told; some none: the end -/
abbrev Ni := Hm → Nat → Option (Option MV)
abbrev Fi := Env → Hm → R (Ni × Nat)
def nT (l : List MV) : Ni := fun _ k => some l[k]?
def nL (i : Nat) : Ni := fun M k => match M[i]? with
  | some (.lst l) => some l[k]?
  | _ => none
abbrev Ftg := MV → Env → Hm → R Env
def gN (i : Nat) : Ftg := fun d env M => .ok (env.set i (some d)) M
abbrev Ftgs := List MV → Env → Hm → R Env
def gsNil : Ftgs := fun ds env M => match ds with
  | [] => .ok env M
  | _ => .bad
def gsCons (g : Ftg) (r : Ftgs) : Ftgs := fun ds env M => match ds with
  | d :: ds => (g d env M).bind fun env1 M1 => r ds env1 M1
  | [] => .bad
def gT (n : Nat) (r : Ftgs) : Ftg := fun d env M => match d with
  | .tup l => if l.length = n then r l env M else .bad
  | _ => .bad
def wipeE (env : Env) : List Nat → Env
  | [] => env
  | v :: vs => (wipeE env vs).set v none
/-- the turns of a comprehension: acc, what is made so far -/
def lcGo (ni : Ni) (tg : Ftg) (c : Ft) (e : Fe) (env0 : Env) : Nat → Nat → List MV → Hm → R (List MV)
  | 0, _, _, _ => .bad
  | n + 1, k, acc, M => match ni M k with
    | none => .bad
    | some none => .ok acc M
    | some (some x) => (tg x env0 M).bindN fun env1 M1 => (c env1 M1).bindN fun b M2 =>
      if b then (e env1 M2).bindN fun y M3 => if acc.length < SL then lcGo ni tg c e env0 n (k + 1) (acc ++ [y]) M3 else .bad
      else lcGo ni tg c e env0 n (k + 1) acc M2
def cYes : Ft := fun _ M => .ok true M
def eLc (it : Fi) (tg : Ftg) (c : Ft) (e : Fe) (vs : List Nat) : Fe := fun env M => (it env M).bind fun p M1 =>
  (lcGo p.1 tg c e (wipeE env vs) p.2 0 [] M1).bind fun l M2 => .ok (.ref M2.length) (M2 ++ [.lst l])
def iL (a : Fe) : Fi := fun env M => (a env M).bind fun x M1 => match x with
  | .ref i => match M1[i]? with
    | some (.lst l) => .ok (nL i, l.length + 1) M1
    | _ => .bad
  | .rol l => .ok (nT l, l.length + 1) M1
  | _ => .bad
def iT (a : Fe) : Fi := fun env M => (a env M).bind fun x M1 => match x with
  | .tup l => .ok (nT l, l.length + 1) M1
  | _ => .bad
/-- lo, lo + c, .. n of them -/
def nR (lo c : Int) (n : Nat) : Ni := fun _ k => some (if k < n then some (.int (lo + k * c)) else none)
def iS (a : Fe) : Fi := fun env M => (a env M).bind fun x M1 => match x with
  | .str s => .ok (nT (s.map fun c => .str [c]), s.length + 1) M1
  | _ => .bad

/-! ### statements -/
def sNx : Fs := fun env M => .ok .nx env M
def sSeq (a b : Fs) : Fs := fun env M => match a env M with
  | .ok .nx env1 M1 => b env1 M1
  | r => r
def sSet (i : Nat) (e : Fe) : Fs := fun env M => (e env M).st env fun d M1 => .ok .nx (env.set i (some d)) M1
def sAsg (g : Ftg) (e : Fe) : Fs := fun env M => (e env M).st env fun d M1 => (g d env M1).st env fun env1 M2 => .ok .nx env1 M2
def sAug (f : MV → MV → Hm → R MV) (i : Nat) (e : Fe) : Fs := fun env M => match env[i]? with
  | some (some x) => (e env M).st env fun y M1 => (f x y M1).st env fun z M2 => .ok .nx (env.set i (some z)) M2
  | _ => .bad
def sEx (e : Fe) : Fs := fun env M => (e env M).st env fun _ M1 => .ok .nx env M1
def sRet (e : Fe) : Fs := fun env M => (e env M).st env fun d M1 => .ok (.ret d) env M1
def sRetN : Fs := fun env M => .ok (.ret .non) env M
def sIf (c : Ft) (a b : Fs) : Fs := fun env M => (c env M).st env fun k M1 => if k then a env M1 else b env M1
def sBrk : Fs := fun env M => .ok .brk env M
def sCnt : Fs := fun env M => .ok .cnt env M
def whlGo (c : Ft) (b : Fs) : Nat → Fs
  | 0 => fun _ _ => .bad
  | n + 1 => fun env M => (c env M).st env fun k M1 => if k then
      match b env M1 with
      | .ok .nx env2 M2 => whlGo c b n env2 M2
      | .ok .cnt env2 M2 => whlGo c b n env2 M2
      | .ok .brk env2 M2 => .ok .nx env2 M2
      | r => r
    else .ok .nx env M1
/-- most turns of a while -/
abbrev WL : Nat := 1073741824
def sWhl (c : Ft) (b : Fs) : Fs := whlGo c b WL
def forGo (ni : Ni) (tg : Ftg) (b : Fs) : Nat → Nat → Fs
  | 0, _ => fun _ _ => .bad
  | n + 1, k => fun env M => match ni M k with
    | none => .bad
    | some none => .ok .nx env M
    | some (some x) => (tg x env M).st env fun env1 M1 => match b env1 M1 with
      | .ok .nx env2 M2 => forGo ni tg b n (k + 1) env2 M2
      | .ok .cnt env2 M2 => forGo ni tg b n (k + 1) env2 M2
      | .ok .brk env2 M2 => .ok .nx env2 M2
      | r => r
def sFor (it : Fi) (tg : Ftg) (b : Fs) : Fs := fun env M => (it env M).st env fun p M1 => forGo p.1 tg b p.2 0 env M1
/-- raise C(..) -/
def sRaise (f : List MV → Hm → R MX) (t : Fa) : Fs := fun env M => (t env M).st env fun xs M1 => (f xs M1).st env fun x M2 => .exc x env M2

/-! ### defs -/
abbrev Ga := Nat → List MV → Hm → R MV
structure Df where
  np : Nat
  ns : Nat
  bd : Ga → Fs
def RS.res : RS → R MV
  | .ok .nx _ M => .ok .non M
  | .ok (.ret d) _ M => .ok d M
  | .ok _ _ _ => .bad
  | .exc x _ M => .exc x M
  | .bad => .bad
def callD (d : Df) (G : Ga) (ds : List MV) (M : Hm) : R MV :=
  if ds.length = d.np then (d.bd G (ds.map some ++ List.replicate (d.ns - d.np) none) M).res else .bad
/-- the defs of a text, n calls deep -/
def run (tab : Nat → Option Df) : Nat → Ga
  | 0 => fun _ _ _ => .bad
  | n + 1 => fun f ds M => match tab f with
    | some d => callD d (run tab n) ds M
    | none => .bad
def eCall (G : Ga) (f : Nat) (t : Fa) : Fe := eFn (G f) t
end Mi
set_option maxRecDepth 100000
/-! The relation between the small language's values and those of the layer. -/
namespace Mi
open PySem PySem.Spec PyProof.Rows L2

def T (l : Tx) : Str := ⟨l.toArray⟩
theorem T_inj {a b : Tx} (h : T a = T b) : a = b := by
  have e : a.toArray = b.toArray := congrArg Str.cps h
  simpa using congrArg Array.toList e
theorem T_len (a : Tx) : (T a).length = a.length := by
  show a.toArray.size = a.length
  simp
theorem T_list (a : Tx) : (T a).cps.toList = a := by
  show a.toArray.toList = a
  simp
theorem T_app (a b : Tx) : T a ++ T b = T (a ++ b) := by
  show Str.mk (a.toArray ++ b.toArray) = Str.mk (a ++ b).toArray
  simp
theorem T_surj (s : Str) : ∃ l, s = T l := ⟨s.cps.toList, by cases s; simp [T]⟩

/-- where the small language's classes stand, and what is written -/
structure Cfg where
  K : PySem.W.Frag
  /-- a class's address -/
  cA : Nat → Addr

/-- a list that is read only -/
def FzL (K : PySem.W.Frag) (H : Hp) (a : Addr) (xs : List V) : Prop :=
  (∃ o, H a = some (.frz o (.lst xs))) ∨
    ∃ (o : Obj) (its : Array Value) (n : Nat), K.lookup a = some o ∧ o.cls = .type "list" ∧ o.dict = none ∧ o.data = .seq its n ∧ its.size ≤ sizeLine ∧ Vals xs its.toList
theorem FzL.sq {K : PySem.W.Frag} {H : Hp} {a : Addr} {xs : List V} (h : FzL K H a xs) : SqL K H a xs := by
  rcases h with ⟨o, h⟩ | h
  · exact .inl (.inr ⟨o, h⟩)
  · exact .inr h

section
variable (K : PySem.W.Frag)
mutual
def RV (H : Hp) (ρ : List Addr) : MV → V → Prop
  | .non, v => v = .non
  | .bl b, v => v = .bl b
  | .int i, v => v = .int i
  | .str s, v => v = .str (T s)
  | .tup l, v => ∃ a xs, v = .ref a ∧ SqT K H a xs ∧ RVs H ρ l xs
  | .ref i, v => ∃ a, ρ[i]? = some a ∧ v = .ref a
  | .rol l, v => ∃ a xs, v = .ref a ∧ FzL K H a xs ∧ RVs H ρ l xs
def RVs (H : Hp) (ρ : List Addr) : List MV → List V → Prop
  | [], xs => xs = []
  | d :: ds, xs => ∃ v vs, xs = v :: vs ∧ RV H ρ d v ∧ RVs H ρ ds vs
end
end

/-- what is never lost -/
structure Mo (K : PySem.W.Frag) (ρ ρ' : List Addr) (H H' : Hp) : Prop where
  pre : ρ <+: ρ'
  tup : ∀ a xs, SqT K H a xs → SqT K H' a xs
  fz : ∀ a xs, FzL K H a xs → FzL K H' a xs
structure Ext (K : PySem.W.Frag) (ρ ρ' : List Addr) (H H' : Hp) : Prop extends Mo K ρ ρ' H H' where
  /-- what is tracked beside the places stands -/
  fr : ∀ a o, H a = some o → a ∉ ρ → H' a = some o
  /-- new places were free -/
  nw : ∀ a, a ∈ ρ' → a ∈ ρ ∨ H a = none
section
variable {K : PySem.W.Frag} {ρ ρ' ρ2 : List Addr} {H H' H2 : Hp}
theorem Ext.refl : Ext K ρ ρ H H := ⟨⟨List.prefix_refl _, fun _ _ h => h, fun _ _ h => h⟩, fun _ _ h _ => h, fun _ h => .inl h⟩
theorem Ext.trans (a : Ext K ρ ρ' H H') (b : Ext K ρ' ρ2 H' H2) : Ext K ρ ρ2 H H2 := by
  refine ⟨⟨a.pre.trans b.pre, fun x y h => b.tup x y (a.tup x y h), fun x y h => b.fz x y (a.fz x y h)⟩, fun x o h hn => ?_, fun x hx => ?_⟩
  · refine b.fr x o (a.fr x o h hn) fun hm => ?_
    rcases a.nw x hm with q | q
    · exact hn q
    · rw [h] at q; cases q
  · rcases b.nw x hx with q | q
    · exact a.nw x q
    · by_cases hm : x ∈ ρ
      · exact .inl hm
      · cases e : H x with
        | none => exact .inr rfl
        | some o => rw [a.fr x o e hm] at q; cases q
theorem Mo.ix (e : Mo K ρ ρ' H H') {i : Nat} {a : Addr} (h : ρ[i]? = some a) : ρ'[i]? = some a := by
  obtain ⟨t, rfl⟩ := e.pre
  obtain ⟨hl, he⟩ := List.getElem?_eq_some_iff.mp h
  rw [List.getElem?_append_left hl]
  exact h
mutual
theorem RV.mo (e : Mo K ρ ρ' H H') : ∀ {d : MV} {v : V}, RV K H ρ d v → RV K H' ρ' d v
  | .non, _, h => by unfold RV at h ⊢; exact h
  | .bl _, _, h => by unfold RV at h ⊢; exact h
  | .int _, _, h => by unfold RV at h ⊢; exact h
  | .str _, _, h => by unfold RV at h ⊢; exact h
  | .tup l, v, h => by
    unfold RV at h ⊢
    obtain ⟨a, xs, h1, h2, h3⟩ := h
    exact ⟨a, xs, h1, e.tup a xs h2, RVs.mo e h3⟩
  | .ref i, v, h => by
    unfold RV at h ⊢
    obtain ⟨a, h1, h2⟩ := h
    exact ⟨a, e.ix h1, h2⟩
  | .rol l, v, h => by
    unfold RV at h ⊢
    obtain ⟨a, xs, h1, h2, h3⟩ := h
    exact ⟨a, xs, h1, e.fz a xs h2, RVs.mo e h3⟩
theorem RVs.mo (e : Mo K ρ ρ' H H') : ∀ {ds : List MV} {vs : List V}, RVs K H ρ ds vs → RVs K H' ρ' ds vs
  | [], _, h => by unfold RVs at h ⊢; exact h
  | d :: ds, xs, h => by
    unfold RVs at h ⊢
    obtain ⟨v, vs, h1, h2, h3⟩ := h
    exact ⟨v, vs, h1, RV.mo e h2, RVs.mo e h3⟩
end
theorem RV.mono (e : Ext K ρ ρ' H H') {d : MV} {v : V} (h : RV K H ρ d v) : RV K H' ρ' d v := h.mo e.toMo
theorem RVs.mono (e : Ext K ρ ρ' H H') {ds : List MV} {vs : List V} (h : RVs K H ρ ds vs) : RVs K H' ρ' ds vs := h.mo e.toMo
theorem Ext.ix (e : Ext K ρ ρ' H H') {i : Nat} {a : Addr} (h : ρ[i]? = some a) : ρ'[i]? = some a := e.toMo.ix h
theorem RVs.len : ∀ {ds : List MV} {vs : List V}, RVs K H ρ ds vs → vs.length = ds.length
  | [], _, h => by unfold RVs at h; rw [h]; rfl
  | d :: ds, xs, h => by
    unfold RVs at h
    obtain ⟨v, vs, rfl, _, h3⟩ := h
    rw [List.length_cons, List.length_cons, RVs.len h3]
theorem RVs.get : ∀ {ds : List MV} {vs : List V}, RVs K H ρ ds vs → ∀ {k : Nat} {d : MV}, ds[k]? = some d → ∃ v, vs[k]? = some v ∧ RV K H ρ d v
  | [], _, h, k, d, e => by simp at e
  | d :: ds, xs, h, k, d', e => by
    unfold RVs at h
    obtain ⟨v, vs, rfl, h2, h3⟩ := h
    cases k with
    | zero =>
      simp at e
      subst e
      exact ⟨v, rfl, h2⟩
    | succ k =>
      simp at e
      obtain ⟨v', e', r'⟩ := RVs.get h3 e
      exact ⟨v', by simpa using e', r'⟩
theorem RVs.app : ∀ {ds es : List MV} {vs ws : List V}, RVs K H ρ ds vs → RVs K H ρ es ws → RVs K H ρ (ds ++ es) (vs ++ ws)
  | [], es, _, ws, h, h' => by unfold RVs at h; subst h; exact h'
  | d :: ds, es, xs, ws, h, h' => by
    unfold RVs at h
    obtain ⟨v, vs, rfl, h2, h3⟩ := h
    show RVs K H ρ (d :: (ds ++ es)) (v :: (vs ++ ws))
    unfold RVs
    exact ⟨v, _, rfl, h2, RVs.app h3 h'⟩
theorem RVs.nil : RVs K H ρ [] [] := by unfold RVs; rfl
theorem RVs.cons {d : MV} {ds : List MV} {v : V} {vs : List V} (h : RV K H ρ d v) (t : RVs K H ρ ds vs) : RVs K H ρ (d :: ds) (v :: vs) := by
  unfold RVs
  exact ⟨v, vs, rfl, h, t⟩
theorem RVs.take : ∀ {ds : List MV} {vs : List V} (n : Nat), RVs K H ρ ds vs → RVs K H ρ (ds.take n) (vs.take n)
  | [], _, n, h => by unfold RVs at h; subst h; simp; exact RVs.nil
  | d :: ds, xs, n, h => by
    unfold RVs at h
    obtain ⟨v, vs, rfl, h2, h3⟩ := h
    cases n with
    | zero => exact RVs.nil
    | succ n => exact RVs.cons h2 (RVs.take n h3)
theorem RVs.drop : ∀ {ds : List MV} {vs : List V} (n : Nat), RVs K H ρ ds vs → RVs K H ρ (ds.drop n) (vs.drop n)
  | [], _, n, h => by unfold RVs at h; subst h; simp; exact RVs.nil
  | d :: ds, xs, n, h => by
    unfold RVs at h
    obtain ⟨v, vs, rfl, h2, h3⟩ := h
    cases n with
    | zero => exact RVs.cons h2 h3
    | succ n => exact RVs.drop n h3
theorem RVs.rev : ∀ {ds : List MV} {vs : List V}, RVs K H ρ ds vs → RVs K H ρ ds.reverse vs.reverse
  | [], _, h => by unfold RVs at h; subst h; exact RVs.nil
  | d :: ds, xs, h => by
    unfold RVs at h
    obtain ⟨v, vs, rfl, h2, h3⟩ := h
    rw [List.reverse_cons, List.reverse_cons]
    exact RVs.app (RVs.rev h3) (RVs.cons h2 RVs.nil)
theorem RVs.set : ∀ {ds : List MV} {vs : List V} (k : Nat) {d : MV} {v : V}, RVs K H ρ ds vs → RV K H ρ d v → RVs K H ρ (ds.set k d) (vs.set k v)
  | [], _, k, d, v, h, r => by unfold RVs at h; subst h; exact RVs.nil
  | d' :: ds, xs, k, d, v, h, r => by
    unfold RVs at h
    obtain ⟨v', vs, rfl, h2, h3⟩ := h
    cases k with
    | zero => exact RVs.cons r h3
    | succ k => exact RVs.cons h2 (RVs.set k h3 r)
theorem RVs.snoc {ds : List MV} {vs : List V} {d : MV} {v : V} (h : RVs K H ρ ds vs) (r : RV K H ρ d v) : RVs K H ρ (ds ++ [d]) (vs ++ [v]) := h.app (RVs.cons r RVs.nil)
end

/-! ### the heap -/
/-- pairs of a dict: a key is an int or a text -/
def keyM : MV → Option Key
  | .int i => some (.inl i)
  | .str s => some (.inr (T s))
  | _ => none
def RK (K : PySem.W.Frag) (H : Hp) (ρ : List Addr) : List (MV × MV) → List (Key × V) → Prop
  | [], ks => ks = []
  | (k, d) :: r, ks => ∃ k' v t, ks = (k', v) :: t ∧ keyM k = some k' ∧ RV K H ρ d v ∧ RK K H ρ r t
def RF (K : PySem.W.Frag) (H : Hp) (ρ : List Addr) : List (Tx × MV) → List (Str × V) → Prop
  | [], ks => ks = []
  | (f, d) :: r, ks => ∃ v t, ks = (T f, v) :: t ∧ RV K H ρ d v ∧ RF K H ρ r t
def RO (C : Cfg) (H : Hp) (ρ : List Addr) : MO → Addr → Prop
  | .lst l, a => ∃ xs, H a = some (.lst xs) ∧ RVs C.K H ρ l xs
  | .dic l, a => ∃ ks, H a = some (.dK ks) ∧ RK C.K H ρ l ks
  | .ins c fs, a => ∃ dx gs, H a = some (.ins (C.cA c) dx gs) ∧ RF C.K H ρ fs gs
structure RH (C : Cfg) (ρ : List Addr) (H : Hp) (M : Hm) : Prop where
  len : ρ.length = M.length
  nd : ρ.Nodup
  ob : ∀ (i : Nat) (o : MO), M[i]? = some o → ∃ a, ρ[i]? = some a ∧ RO C H ρ o a
section
variable {C : Cfg} {ρ ρ' : List Addr} {H H' : Hp} {M : Hm}
theorem RK.mo (e : Mo C.K ρ ρ' H H') : ∀ {l : List (MV × MV)} {ks : List (Key × V)}, RK C.K H ρ l ks → RK C.K H' ρ' l ks
  | [], _, h => h
  | (k, d) :: r, ks, h => by
    obtain ⟨k', v, t, h1, h2, h3, h4⟩ := h
    exact ⟨k', v, t, h1, h2, h3.mo e, RK.mo e h4⟩
theorem RF.mo (e : Mo C.K ρ ρ' H H') : ∀ {l : List (Tx × MV)} {ks : List (Str × V)}, RF C.K H ρ l ks → RF C.K H' ρ' l ks
  | [], _, h => h
  | (k, d) :: r, ks, h => by
    obtain ⟨v, t, h1, h3, h4⟩ := h
    exact ⟨v, t, h1, h3.mo e, RF.mo e h4⟩
theorem RO.mo (e : Mo C.K ρ ρ' H H') {o : MO} {a : Addr} (hk : H' a = H a) (h : RO C H ρ o a) : RO C H' ρ' o a := by
  cases o with
  | lst l =>
    obtain ⟨xs, h1, h2⟩ := h
    exact ⟨xs, hk.trans h1, h2.mo e⟩
  | dic l =>
    obtain ⟨xs, h1, h2⟩ := h
    exact ⟨xs, hk.trans h1, h2.mo e⟩
  | ins c fs =>
    obtain ⟨dx, gs, h1, h2⟩ := h
    exact ⟨dx, gs, hk.trans h1, h2.mo e⟩
theorem RO.mono (e : Ext C.K ρ ρ' H H') {o : MO} {a : Addr} (hk : H' a = H a) (h : RO C H ρ o a) : RO C H' ρ' o a := h.mo e.toMo hk
/-- what stands at an object's place may be written, and is no tuple -/
theorem RO.mut {o : MO} {a : Addr} (h : RO C H ρ o a) : ∃ u, H a = some u ∧ Mut (some u) := by
  cases o with
  | lst l => obtain ⟨xs, h1, _⟩ := h; exact ⟨_, h1, trivial⟩
  | dic l => obtain ⟨xs, h1, _⟩ := h; exact ⟨_, h1, trivial⟩
  | ins c fs => obtain ⟨dx, gs, h1, _⟩ := h; exact ⟨_, h1, trivial⟩
/-- a place that may be written is changed: tuples and read only lists stand -/
theorem Ext.wr {a : Addr} {u o : HO} (h : H a = some u) (m : Mut (some u)) (hm : a ∈ ρ) : Ext C.K ρ ρ H (upd H a o) := by
  have rd : ∀ b w, ¬ Mut (some w) → Rd H b w → Rd (upd H a o) b w := fun b w nm r => by
    rcases r with r | ⟨ob, r⟩
    · have : b ≠ a := fun e => by rw [e, h] at r; cases r; exact nm m
      exact .inl (by rw [upd_ne this]; exact r)
    · have : b ≠ a := fun e => by rw [e, h] at r; cases r; exact m
      exact .inr ⟨ob, by rw [upd_ne this]; exact r⟩
  refine ⟨⟨List.prefix_refl _, fun b xs q => ?_, fun b xs q => ?_⟩, fun b w q hn => by rw [upd_ne (fun e => hn (by rw [e]; exact hm))]; exact q, fun b hb => .inl hb⟩
  · rcases q with q | q
    · exact .inl (rd b _ (fun z => z) q)
    · exact .inr q
  · rcases q with ⟨ob, q⟩ | q
    · have : b ≠ a := fun e => by rw [e, h] at q; cases q; exact m
      exact .inl ⟨ob, by rw [upd_ne this]; exact q⟩
    · exact .inr q
/-- something new is tracked -/
theorem Ext.newG {a : Addr} {o : HO} (h : H a = none) (hp : ρ <+: ρ') (hw : ∀ b, b ∈ ρ' → b ∈ ρ ∨ H b = none) : Ext C.K ρ ρ' H (upd H a o) := by
  have ne : ∀ b w, H b = some w → b ≠ a := fun b w q e => by rw [e, h] at q; cases q
  refine ⟨⟨hp, fun b xs q => ?_, fun b xs q => ?_⟩, fun b w q _ => by rw [upd_ne (ne _ _ q)]; exact q, hw⟩
  · rcases q with (q | ⟨ob, q⟩) | q
    · exact .inl (.inl (by rw [upd_ne (ne _ _ q)]; exact q))
    · exact .inl (.inr ⟨ob, by rw [upd_ne (ne _ _ q)]; exact q⟩)
    · exact .inr q
  · rcases q with ⟨ob, q⟩ | q
    · exact .inl ⟨ob, by rw [upd_ne (ne _ _ q)]; exact q⟩
    · exact .inr q
theorem Ext.new {a : Addr} {o : HO} (h : H a = none) : Ext C.K ρ ρ H (upd H a o) := Ext.newG h (List.prefix_refl _) fun _ q => .inl q
theorem Ext.new1 {a : Addr} {o : HO} (h : H a = none) : Ext C.K ρ (ρ ++ [a]) H (upd H a o) := Ext.newG h (List.prefix_append _ _) fun b q => by
  rcases List.mem_append.mp q with q | q
  · exact .inl q
  · have : b = a := by simpa using q
    exact .inr (by rw [this]; exact h)
theorem RH.at (h : RH C ρ H M) {i : Nat} {o : MO} {a : Addr} (hm : M[i]? = some o) (ha : ρ[i]? = some a) : RO C H ρ o a := by
  obtain ⟨b, hb, r⟩ := h.ob i o hm
  rw [ha] at hb
  cases hb
  exact r
theorem RH.there (h : RH C ρ H M) {i : Nat} {a : Addr} (ha : ρ[i]? = some a) : ∃ o, M[i]? = some o ∧ RO C H ρ o a := by
  have hl : i < M.length := by
    rw [← h.len]
    exact (List.getElem?_eq_some_iff.mp ha).1
  exact ⟨M[i], List.getElem?_eq_getElem hl, h.at (List.getElem?_eq_getElem hl) ha⟩
theorem RH.fresh (h : RH C ρ H M) {p : Addr} (hp : H p = none) : p ∉ ρ := fun hm => by
  obtain ⟨i, hi⟩ := List.mem_iff_getElem?.mp hm
  obtain ⟨o, _, r⟩ := h.there hi
  obtain ⟨u, hu, _⟩ := r.mut
  rw [hp] at hu
  cases hu
/-- something else is laid anew -/
theorem RH.beside (h : RH C ρ H M) {p : Addr} {o : HO} (hp : H p = none) : RH C ρ (upd H p o) M := by
  refine ⟨h.len, h.nd, fun i ob hi => ?_⟩
  obtain ⟨a, ha, r⟩ := h.ob i ob hi
  obtain ⟨u, hu, _⟩ := r.mut
  have ne : a ≠ p := fun e => by rw [e, hp] at hu; cases hu
  exact ⟨a, ha, r.mono (Ext.new (C := C) hp) (upd_ne ne)⟩
/-- an object is laid anew -/
theorem RH.push (h : RH C ρ H M) {p : Addr} {o : HO} {ob : MO} (hp : H p = none) (r : RO C (upd H p o) (ρ ++ [p]) ob p) : RH C (ρ ++ [p]) (upd H p o) (M ++ [ob]) := by
  have e : Ext C.K ρ (ρ ++ [p]) H (upd H p o) := Ext.new1 (C := C) hp
  refine ⟨by rw [List.length_append, List.length_append, h.len]; rfl, ?_, fun i ob' hi => ?_⟩
  · rw [List.nodup_append]
    refine ⟨h.nd, by simp, fun a ha b hb q => ?_⟩
    have : b = p := by simpa using hb
    subst this
    subst q
    exact h.fresh hp ha
  · by_cases hl : i < M.length
    · rw [List.getElem?_append_left hl] at hi
      obtain ⟨a, ha, r'⟩ := h.ob i ob' hi
      obtain ⟨u, hu, _⟩ := r'.mut
      have ne : a ≠ p := fun q => by rw [q, hp] at hu; cases hu
      exact ⟨a, e.ix ha, r'.mono e (upd_ne ne)⟩
    · have hl2 : M.length ≤ i := Nat.le_of_not_lt hl
      rw [List.getElem?_append_right hl2] at hi
      have h0 : i - M.length = 0 := by
        have := (List.getElem?_eq_some_iff.mp hi).1
        simp at this
        omega
      rw [h0] at hi
      cases hi
      refine ⟨p, ?_, r⟩
      rw [List.getElem?_append_right (by rw [h.len]; exact hl2), h.len, h0]
      rfl
/-- an object is written -/
theorem RH.set (h : RH C ρ H M) {i : Nat} {a : Addr} {o : HO} {ob : MO} (ha : ρ[i]? = some a) (r : RO C (upd H a o) ρ ob a) : RH C ρ (upd H a o) (M.set i ob) := by
  obtain ⟨ob0, hm, r0⟩ := h.there ha
  obtain ⟨u, hu, mu⟩ := r0.mut
  have e : Ext C.K ρ ρ H (upd H a o) := Ext.wr (C := C) hu mu (List.mem_of_getElem? ha)
  have hl := (List.getElem?_eq_some_iff.mp hm).1
  refine ⟨by rw [List.length_set]; exact h.len, h.nd, fun j ob' hj => ?_⟩
  by_cases hji : j = i
  · subst hji
    rw [List.getElem?_set_self hl] at hj
    cases hj
    exact ⟨a, ha, r⟩
  · rw [List.getElem?_set_ne (Ne.symm hji)] at hj
    obtain ⟨b, hb, r'⟩ := h.ob j ob' hj
    have ne : b ≠ a := fun q => by
      subst q
      exact hji (nodup_ixA h.nd hb ha)
    exact ⟨b, hb, r'.mono e (upd_ne ne)⟩
where
  nodup_ixA {l : List Addr} (hN : l.Nodup) {i j : Nat} {x : Addr} (a : l[i]? = some x) (b : l[j]? = some x) : i = j := by
    obtain ⟨h1, e1⟩ := List.getElem?_eq_some_iff.mp a
    obtain ⟨h2, e2⟩ := List.getElem?_eq_some_iff.mp b
    exact (List.getElem_inj hN).mp (e1.trans e2.symm)
end

/-! ### the slots -/
structure RE (K : PySem.W.Frag) (H : Hp) (ρ : List Addr) (env : Env) (σ : L2.St) : Prop where
  len : σ.length = env.length
  at_ : ∀ (i : Nat) (d : MV), env[i]? = some (some d) → ∃ v, σ[i]? = some (some v) ∧ RV K H ρ d v
section
variable {K : PySem.W.Frag} {ρ ρ' : List Addr} {H H' : Hp} {env : Env} {σ : L2.St}
theorem RE.mono (e : Ext K ρ ρ' H H') (h : RE K H ρ env σ) : RE K H' ρ' env σ := ⟨h.len, fun i d q => by
  obtain ⟨v, e1, r⟩ := h.at_ i d q
  exact ⟨v, e1, r.mono e⟩⟩
theorem RE.set (h : RE K H ρ env σ) (i : Nat) {d : MV} {v : V} (r : RV K H ρ d v) : RE K H ρ (env.set i (some d)) (σ.set i (some v)) := by
  refine ⟨by rw [List.length_set, List.length_set]; exact h.len, fun j d' q => ?_⟩
  by_cases hj : j = i
  · subst hj
    have hl : j < env.length := by
      have := (List.getElem?_eq_some_iff.mp q).1
      simpa using this
    rw [List.getElem?_set_self hl] at q
    cases q
    exact ⟨v, List.getElem?_set_self (by rw [h.len]; exact hl), r⟩
  · rw [List.getElem?_set_ne (Ne.symm hj)] at q
    obtain ⟨v', e1, r'⟩ := h.at_ j d' q
    exact ⟨v', by rw [List.getElem?_set_ne (Ne.symm hj)]; exact e1, r'⟩
theorem RE.none (h : RE K H ρ env σ) (i : Nat) (x : Option V) : RE K H ρ (env.set i none) (σ.set i x) := by
  refine ⟨by rw [List.length_set, List.length_set]; exact h.len, fun j d' q => ?_⟩
  by_cases hj : j = i
  · subst hj
    have hl : j < env.length := by
      have := (List.getElem?_eq_some_iff.mp q).1
      simpa using this
    rw [List.getElem?_set_self hl] at q
    cases q
  · rw [List.getElem?_set_ne (Ne.symm hj)] at q
    obtain ⟨v', e1, r'⟩ := h.at_ j d' q
    exact ⟨v', by rw [List.getElem?_set_ne (Ne.symm hj)]; exact e1, r'⟩
theorem RE.wipe (h : RE K H ρ env σ) : ∀ vs : List Nat, RE K H ρ (wipeE env vs) (L2.wipe σ vs)
  | [] => h
  | v :: vs => (RE.wipe h vs).none v Option.none
end
end Mi
set_option maxRecDepth 100000
/-! What a piece of syntax does, by the small language. -/
namespace Mi
open PySem PySem.Spec PyProof.Rows L2
def RX (C : Cfg) (H : Hp) (ρ : List Addr) (x : MX) (cls : Value) (dd : Option Addr) : Prop :=
  cls = .ref (C.cA x.cls) ∧ match x.fs, dd with
    | none, none => True
    | some fs, some a => ∃ gs, H a = some (.xd gs) ∧ RF C.K H ρ fs gs
    | _, _ => False
def Post {α : Type} (C : Cfg) (ρ : List Addr) (H : Hp) (r : R α) (F : α → Hm → List Addr → Hp → Prop) (G : MX → Hm → List Addr → Hp → Prop) : Prop :=
  match r with
  | .ok a M' => ∀ ρ' H', Ext C.K ρ ρ' H H' → RH C ρ' H' M' → F a M' ρ' H'
  | .exc x M' => ∀ ρ' H', Ext C.K ρ ρ' H H' → RH C ρ' H' M' → G x M' ρ' H'
  | .bad => False
section
variable {α β : Type} {C : Cfg} {ρ ρ' : List Addr} {H H' : Hp} {r : R α} {f : α → Hm → R β}
theorem Post.ext {F : α → Hm → List Addr → Hp → Prop} {G : MX → Hm → List Addr → Hp → Prop} (p : Post C ρ H r F G) (e : Ext C.K ρ ρ' H H') : Post C ρ' H' r F G := by
  cases r with
  | ok a M => exact fun ρ2 H2 e2 => p ρ2 H2 (e.trans e2)
  | exc x M => exact fun ρ2 H2 e2 => p ρ2 H2 (e.trans e2)
  | bad => exact p
theorem Post.imp {F F' : α → Hm → List Addr → Hp → Prop} {G G' : MX → Hm → List Addr → Hp → Prop} (p : Post C ρ H r F G)
    (hf : ∀ a M' ρ' H', Ext C.K ρ ρ' H H' → RH C ρ' H' M' → F a M' ρ' H' → F' a M' ρ' H') (hg : ∀ x M' ρ' H', Ext C.K ρ ρ' H H' → RH C ρ' H' M' → G x M' ρ' H' → G' x M' ρ' H') : Post C ρ H r F' G' := by
  cases r with
  | ok a M => exact fun ρ2 H2 e2 h2 => hf _ _ _ _ e2 h2 (p ρ2 H2 e2 h2)
  | exc x M => exact fun ρ2 H2 e2 h2 => hg _ _ _ _ e2 h2 (p ρ2 H2 e2 h2)
  | bad => exact p
theorem Post.bind {F : β → Hm → List Addr → Hp → Prop} {G : MX → Hm → List Addr → Hp → Prop} (p : Post C ρ H (r.bind f) F G) : Post C ρ H r (fun a M' ρ' H' => Post C ρ' H' (f a M') F G) G := by
  cases r with
  | ok a M =>
    have p' : Post C ρ H (f a M) F G := p
    exact fun ρ2 H2 e2 _ => p'.ext e2
  | exc x M => exact p
  | bad => exact p
theorem Post.bindN {F : β → Hm → List Addr → Hp → Prop} {G : MX → Hm → List Addr → Hp → Prop} (p : Post C ρ H (r.bindN f) F G) : Post C ρ H r (fun a M' ρ' H' => Post C ρ' H' (f a M') F G) (fun _ _ _ _ => False) := by
  cases r with
  | ok a M =>
    have p' : Post C ρ H (f a M) F G := p
    exact fun ρ2 H2 e2 _ => p'.ext e2
  | exc x M => exact p.elim
  | bad => exact p
theorem Post.now {a : α} {M : Hm} {F : α → Hm → List Addr → Hp → Prop} {G : MX → Hm → List Addr → Hp → Prop} (p : Post C ρ H (.ok a M) F G) (h : RH C ρ H M) : F a M ρ H := p ρ H Ext.refl h
end

/-- what a piece that gives a value asks -/
def tG {α β : Type} (C : Cfg) (W : WX) (rel : Hp → List Addr → α → β → Prop) (f : Env → Hm → R α) : L2.St → Hp → (β → Hp → Prop) → Prop := fun σ H Q =>
  ∃ ρ M env, RH C ρ H M ∧ RE C.K H ρ env σ ∧ Post C ρ H (f env M) (fun d _ ρ' H' => ∀ v, rel H' ρ' d v → Q v H') (fun x _ ρ' H' => ∀ cls dd, RX C H' ρ' x cls dd → W cls dd σ H')
abbrev tE (C : Cfg) (W : WX) (f : Fe) : TE := tG C W (RV C.K) f
abbrev tT (C : Cfg) (W : WX) (f : Ft) : TT := tG C W (fun _ _ a b => b = a) f
abbrev tA (C : Cfg) (W : WX) (f : Fa) : TA := tG C W (RVs C.K) f

theorem PE.imp {X : Cx} {e : Expr} {t t' : TE} (h : PE X e t) (hi : ∀ σ H Q, t' σ H Q → t σ H Q) : PE X e t' := ⟨fun pins s σ H Q I q => h.run pins s σ H Q I (hi σ H Q q)⟩
theorem PT.imp {X : Cx} {e : Expr} {t t' : TT} (h : PT X e t) (hi : ∀ σ H Q, t' σ H Q → t σ H Q) : PT X e t' := ⟨fun pins s σ H Q I q => h.run pins s σ H Q I (hi σ H Q q)⟩
theorem PW.imp {X : Cx} {e : Expr} {t t' : TT} (h : PW X e t) (hi : ∀ σ H Q, t' σ H Q → t σ H Q) : PW X e t' := ⟨fun wh pins s σ H Q I q => h.run wh pins s σ H Q I (hi σ H Q q)⟩
theorem PA.imp {X : Cx} {e : List Expr} {t t' : TA} (h : PA X e t) (hi : ∀ σ H Q, t' σ H Q → t σ H Q) : PA X e t' := ⟨fun p pins s σ H Q I q => h.run p pins s σ H Q I (hi σ H Q q)⟩
theorem PS.imp {X : Cx} {e : Stmt} {t t' : TS} (h : PS X e t) (hi : ∀ D σ H, t' D σ H → t D σ H) : PS X e t' := ⟨fun pins s σ H D I q => h.run pins s σ H D I (hi D σ H q)⟩
theorem PSs.imp {X : Cx} {e : List Stmt} {t t' : TS} (h : PSs X e t) (hi : ∀ D σ H, t' D σ H → t D σ H) : PSs X e t' := ⟨fun pins s σ H D I q => h.run pins s σ H D I (hi D σ H q)⟩
theorem PG.imp {X : Cx} {e : Expr} {t t' : TG} (h : PG X e t) (hi : ∀ v σ H Q, t' v σ H Q → t v σ H Q) : PG X e t' := ⟨fun pins s σ H v u Q I r q => h.run pins s σ H v u Q I r (hi v σ H Q q)⟩
theorem PGs.imp {X : Cx} {e : List Expr} {t t' : TGs} (h : PGs X e t) (hi : ∀ v σ H Q, t' v σ H Q → t v σ H Q) : PGs X e t' := ⟨fun pins s σ H v u Q I r q => h.run pins s σ H v u Q I r (hi v σ H Q q)⟩
theorem PI.imp {X : Cx} {tg e : Expr} {t t' : TI} (h : PI X tg e t) (hi : ∀ σ H Q, t' σ H Q → t σ H Q) : PI X tg e t' := ⟨fun pins s σ H R I q => h.run pins s σ H R I (hi σ H R q)⟩

/-! ### a value's operations -/
def Sim2 (C : Cfg) (f : MV → MV → Hm → R MV) (r : R2) : Prop := ∀ (ρ : List Addr) (H : Hp) (M : Hm) (d e : MV) (x y : V) (Q : VK) (G : MX → Hm → List Addr → Hp → Prop), RH C ρ H M → RV C.K H ρ d x → RV C.K H ρ e y →
  Post C ρ H (f d e M) (fun z _ ρ' H' => ∀ v, RV C.K H' ρ' z v → Q v H') G → r x y H Q
def Sim1 (C : Cfg) (f : MV → Hm → R MV) (r : V → Hp → VK → Prop) : Prop := ∀ (ρ : List Addr) (H : Hp) (M : Hm) (d : MV) (x : V) (Q : VK) (G : MX → Hm → List Addr → Hp → Prop), RH C ρ H M → RV C.K H ρ d x →
  Post C ρ H (f d M) (fun z _ ρ' H' => ∀ v, RV C.K H' ρ' z v → Q v H') G → r x H Q
def SimC (C : Cfg) (f : List MV → Hm → R MV) (r : List V → Hp → VK → Prop) : Prop := ∀ (ρ : List Addr) (H : Hp) (M : Hm) (ds : List MV) (xs : List V) (Q : VK) (G : MX → Hm → List Addr → Hp → Prop), RH C ρ H M → RVs C.K H ρ ds xs →
  Post C ρ H (f ds M) (fun z _ ρ' H' => ∀ v, RV C.K H' ρ' z v → Q v H') G → r xs H Q
def SimM (C : Cfg) (f : MV → List MV → Hm → R MV) (r : V → List V → Hp → VK → Prop) : Prop := ∀ (ρ : List Addr) (H : Hp) (M : Hm) (d : MV) (ds : List MV) (x : V) (xs : List V) (Q : VK) (G : MX → Hm → List Addr → Hp → Prop), RH C ρ H M → RV C.K H ρ d x → RVs C.K H ρ ds xs →
  Post C ρ H (f d ds M) (fun z _ ρ' H' => ∀ v, RV C.K H' ρ' z v → Q v H') G → r x xs H Q

section
variable {X : Cx} {C : Cfg} {W : WX}
theorem m_var {i : Nat} {x : Str} {pos : Pos} (hN : X.N[i]? = some x := by rfl) (hv : Vis X.env.scope x := by first | exact Or.inl rfl | exact Or.inr (Or.inl rfl) | exact Or.inr (Or.inr rfl)) (hd : (x == ("__debug__" : Str)) = false := by decide)
    (hcd : (x == ("__classdict__" : Str)) = false := by decide) : PE X (.Name x pos) (tE C W (eVar i)) := by
  refine PE.imp (pe_var hN hv hd hcd) fun σ H Q h => ?_
  obtain ⟨ρ, M, env, rh, re, p⟩ := h
  unfold eVar at p
  split at p
  · rename_i d e
    obtain ⟨v, e1, r⟩ := re.at_ i d e
    exact ⟨v, e1, p.now rh v r⟩
  · exact p.elim
/-- a constant, whatever it is written by -/
theorem m_const {e : Expr} {v : V} {d : MV} (h : PE X e (tC v)) (r : ∀ H ρ, RV C.K H ρ d v) : PE X e (tE C W (eC d)) := by
  refine PE.imp h fun σ H Q h => ?_
  obtain ⟨ρ, M, env, rh, re, p⟩ := h
  exact p.now rh v (r _ _)
theorem m_int {i : Int} {j : Nat} {pos : Pos} : PE X (.Constant (.int i) j pos) (tE C W (eC (.int i))) := m_const pe_int fun _ _ => by unfold RV; rfl
theorem m_bl {b : Bool} {j : Nat} {pos : Pos} : PE X (.Constant (.bool b) j pos) (tE C W (eC (.bl b))) := m_const pe_bl fun _ _ => by unfold RV; rfl
theorem m_non {j : Nat} {pos : Pos} : PE X (.Constant .none j pos) (tE C W (eC .non)) := m_const pe_non fun _ _ => by unfold RV; rfl
theorem m_str {x : Str} {l : Tx} {j : Nat} {pos : Pos} (h : x = T l := by rfl) : PE X (.Constant (.str x) j pos) (tE C W (eC (.str l))) := m_const pe_str fun _ _ => by unfold RV; rw [h]
/-- a constant of the module -/
theorem m_glob {x : Str} {v : V} {d : MV} {u : Value} {pos : Pos} (hm : X.mg x = some u) (r : RelV v u) (rd : ∀ H ρ, RV C.K H ρ d v) (hg : Gl X x := by rfl) (hd : (x == ("__debug__" : Str)) = false := by decide) : PE X (.Name x pos) (tE C W (eC d)) :=
  m_const (pe_glob hg hm r hd) rd

theorem m_op {op : Operator} {r : R2} {f : MV → MV → Hm → R MV} {a b : Expr} {a' b' : Fe} {pos : Pos} (ho : OpR X (binaryOp op) r) (hs : Sim2 C f r) (ha : PE X a (tE C W a')) (hb : PE X b (tE C W b')) : PE X (.BinOp a op b pos) (tE C W (eOp f a' b')) := by
  refine PE.imp (pe_op ho ha hb) fun σ H Q h => ?_
  obtain ⟨ρ, M, env, rh, re, p⟩ := h
  refine ⟨ρ, M, env, rh, re, p.bind.imp (fun d M1 ρ1 H1 e1 rh1 p2 v rv => ?_) (fun _ _ _ _ _ _ q => q)⟩
  exact ⟨ρ1, M1, env, rh1, re.mono e1, p2.bind.imp (fun d2 M2 ρ2 H2 e2 rh2 p3 w rw => hs ρ2 H2 M2 d d2 v w Q _ rh2 (rv.mono e2) rw p3) (fun _ _ _ _ _ _ q => q)⟩
theorem m_cmp {op : CmpOp} {r : R2} {f : MV → MV → Hm → R MV} {a b : Expr} {a' b' : Fe} {pos : Pos} (ho : OpR X (compareOp op) r) (hs : Sim2 C f r) (ha : PE X a (tE C W a')) (hb : PE X b (tE C W b')) (hm : behindInMarks op b = false := by first | exact nomark _ | rfl) :
    PE X (.Compare a [op] [b] pos) (tE C W (eOp f a' b')) := by
  refine PE.imp (pe_cmpR ho ha hb hm) fun σ H Q h => ?_
  obtain ⟨ρ, M, env, rh, re, p⟩ := h
  refine ⟨ρ, M, env, rh, re, p.bind.imp (fun d M1 ρ1 H1 e1 rh1 p2 v rv => ?_) (fun _ _ _ _ _ _ q => q)⟩
  exact ⟨ρ1, M1, env, rh1, re.mono e1, p2.bind.imp (fun d2 M2 ρ2 H2 e2 rh2 p3 w rw => hs ρ2 H2 M2 d d2 v w Q _ rh2 (rv.mono e2) rw p3) (fun _ _ _ _ _ _ q => q)⟩
/-- a comparison as a test -/
theorem mt_cmp {op : CmpOp} {r : R2} {f : MV → MV → Hm → R MV} {a b : Expr} {a' b' : Fe} {pos : Pos} (ho : OpR X (compareOp op) r) (hs : Sim2 C f r) (ha : PE X a (tE C W a')) (hb : PE X b (tE C W b')) (hm : behindInMarks op b = false := by first | exact nomark _ | rfl) :
    PT X (.Compare a [op] [b] pos) (tT C W (cB (eOp f a' b'))) := by
  refine PT.imp (pt_cmpR ho ha hb hm) fun σ H Q h => ?_
  obtain ⟨ρ, M, env, rh, re, p⟩ := h
  have p := p.bind
  refine ⟨ρ, M, env, rh, re, p.bind.imp (fun d M1 ρ1 H1 e1 rh1 p2 v rv => ?_) (fun _ _ _ _ _ _ q => q)⟩
  refine ⟨ρ1, M1, env, rh1, re.mono e1, p2.bind.imp (fun d2 M2 ρ2 H2 e2 rh2 p3 w rw => hs ρ2 H2 M2 d d2 v w _ _ rh2 (rv.mono e2) rw (p3.imp (fun z M3 ρ3 H3 e3 rh3 p4 u ru => ?_) (fun _ _ _ _ _ _ q => q))) (fun _ _ _ _ _ _ q => q)⟩
  cases z with
  | bl k =>
    unfold RV at ru
    exact ⟨k, ru, p4.now rh3 k rfl⟩
  | _ => exact p4.elim
theorem m_un {op : UnaryOp} {r : V → Hp → VK → Prop} {f : MV → Hm → R MV} {a : Expr} {a' : Fe} {pos : Pos} (ho : UnR X (unaryOp op) r) (hs : Sim1 C f r) (ha : PE X a (tE C W a')) : PE X (.UnaryOp op a pos) (tE C W (eUn f a')) := by
  refine PE.imp (pe_un ho ha) fun σ H Q h => ?_
  obtain ⟨ρ, M, env, rh, re, p⟩ := h
  exact ⟨ρ, M, env, rh, re, p.bind.imp (fun d M1 ρ1 H1 e1 rh1 p2 v rv => hs ρ1 H1 M1 d v Q _ rh1 rv p2) (fun _ _ _ _ _ _ q => q)⟩

/-! ### tests -/
/-- an expression of any kind as a test -/
theorem mt_val {a : Expr} {a' : Fe} (ha : PE X a (tE C W a')) (hC : C.K = X.K) (he : ∀ whole, isTrue a X.env whole = (do let v ← whole; standAt a.pos; holding [v] (truthy v)) := by intro _; rfl) : PT X a (tT C W (cV a')) := by
  refine PT.imp (pt_truth ha he) fun σ H Q h => ?_
  obtain ⟨ρ, M, env, rh, re, p⟩ := h
  refine ⟨ρ, M, env, rh, re, p.bind.imp (fun d M1 ρ1 H1 e1 rh1 p2 v rv => ?_) (fun _ _ _ _ _ _ q => q)⟩
  have key : ∀ {b : Bool}, TruV X.K v H1 b → truth M1 d = some b → ∃ k, TruV X.K v H1 k ∧ Q k H1 := fun {b} t q => by
    refine ⟨b, t, ?_⟩
    rw [q] at p2
    exact p2.now rh1 b rfl
  have bad : truth M1 d = none → ∃ k, TruV X.K v H1 k ∧ Q k H1 := fun q => by
    rw [q] at p2
    exact p2.elim
  have emp : ∀ {ds : List MV} {xs : List V}, RVs C.K H1 ρ1 ds xs → (!ds.isEmpty) = !xs.isEmpty := fun {ds xs} r => by
    have := r.len
    cases ds <;> cases xs <;> simp_all
  cases d with
  | non => unfold RV at rv; subst rv; exact key (b := false) (by show false = false; rfl) rfl
  | bl b => unfold RV at rv; subst rv; exact key (b := b) (by show b = b; rfl) rfl
  | int i => unfold RV at rv; subst rv; exact key (b := (i != 0)) (by show (i != 0) = (i != 0); rfl) rfl
  | str s =>
    unfold RV at rv; subst rv
    by_cases hl : s.length ≤ SL
    · refine key (b := !s.isEmpty) ⟨by rw [T_len, sizeLine_eq]; exact hl, ?_⟩ (by simp only [truth, if_pos hl])
      rw [T_len]
      cases s <;> simp <;> omega
    · exact bad (by simp only [truth, if_neg hl])
  | tup l =>
    unfold RV at rv
    obtain ⟨a, xs, rfl, h2, h3⟩ := rv
    exact key (b := !l.isEmpty) (.inr (.inl ⟨xs, by rw [← hC]; exact h2, emp h3⟩)) rfl
  | rol l =>
    unfold RV at rv
    obtain ⟨a, xs, rfl, h2, h3⟩ := rv
    exact key (b := !l.isEmpty) (.inl ⟨xs, by rw [← hC]; exact h2.sq, emp h3⟩) rfl
  | ref i =>
    unfold RV at rv
    obtain ⟨a, h1, rfl⟩ := rv
    cases hm : M1[i]? with
    | none => exact bad (by simp only [truth, hm])
    | some o =>
      have ro := rh1.at hm h1
      cases o with
      | lst l =>
        obtain ⟨xs, q1, q2⟩ := ro
        exact key (b := !l.isEmpty) (.inl ⟨xs, SqL.of q1, emp q2⟩) (by simp only [truth, hm])
      | dic l =>
        obtain ⟨ks, q1, q2⟩ := ro
        refine key (b := !l.isEmpty) (.inr (.inr ⟨ks, q1, ?_⟩)) (by simp only [truth, hm])
        cases l with
        | nil => cases (show ks = [] from q2); rfl
        | cons p r =>
          obtain ⟨k, d⟩ := p
          obtain ⟨k', v, t, rfl, _⟩ := q2
          rfl
      | ins c fs => exact bad (by simp only [truth, hm])
theorem mt_not {a : Expr} {a' : Ft} {pos : Pos} (ha : PT X a (tT C W a')) : PT X (.UnaryOp .Not a pos) (tT C W (cNot a')) := by
  refine PT.imp (pt_not ha) fun σ H Q h => ?_
  obtain ⟨ρ, M, env, rh, re, p⟩ := h
  exact ⟨ρ, M, env, rh, re, p.bind.imp (fun d M1 ρ1 H1 e1 rh1 p2 v rv => by subst rv; exact p2.now rh1 _ rfl) (fun _ _ _ _ _ _ q => q)⟩
theorem mw_and1 {a : Expr} {a' : Ft} {pos : Pos} (ha : PT X a (tT C W a')) : PW X (.BoolOp .And [a] pos) (tT C W a') := pw_and1 ha
theorem mw_or1 {a : Expr} {a' : Ft} {pos : Pos} (ha : PT X a (tT C W a')) : PW X (.BoolOp .Or [a] pos) (tT C W a') := pw_or1 ha
theorem mw_and {a b : Expr} {rest : List Expr} {a' b' : Ft} {pos : Pos} (ha : PT X a (tT C W a')) (hb : PW X (.BoolOp .And (b :: rest) pos) (tT C W b')) : PW X (.BoolOp .And (a :: b :: rest) pos) (tT C W (cAnd a' b')) := by
  refine PW.imp (pw_and ha hb) fun σ H Q h => ?_
  obtain ⟨ρ, M, env, rh, re, p⟩ := h
  refine ⟨ρ, M, env, rh, re, p.bind.imp (fun d M1 ρ1 H1 e1 rh1 p2 v rv => ?_) (fun _ _ _ _ _ _ q => q)⟩
  subst rv
  cases v with
  | true => exact ⟨ρ1, M1, env, rh1, re.mono e1, p2⟩
  | false => exact p2.now rh1 _ rfl
theorem mw_or {a b : Expr} {rest : List Expr} {a' b' : Ft} {pos : Pos} (ha : PT X a (tT C W a')) (hb : PW X (.BoolOp .Or (b :: rest) pos) (tT C W b')) : PW X (.BoolOp .Or (a :: b :: rest) pos) (tT C W (cOr a' b')) := by
  refine PW.imp (pw_or ha hb) fun σ H Q h => ?_
  obtain ⟨ρ, M, env, rh, re, p⟩ := h
  refine ⟨ρ, M, env, rh, re, p.bind.imp (fun d M1 ρ1 H1 e1 rh1 p2 v rv => ?_) (fun _ _ _ _ _ _ q => q)⟩
  subst rv
  cases v with
  | false => exact ⟨ρ1, M1, env, rh1, re.mono e1, p2⟩
  | true => exact p2.now rh1 _ rfl
theorem m_one {op : BoolOp} {a : Expr} {a' : Fe} {pos : Pos} (ha : PE X a (tE C W a')) : PE X (.BoolOp op [a] pos) (tE C W a') := pe_one ha
theorem m_and {a b : Expr} {rest : List Expr} {a' b' : Fe} {pos : Pos} (ha : PE X a (tE C W a')) (hb : PE X (.BoolOp .And (b :: rest) pos) (tE C W b')) : PE X (.BoolOp .And (a :: b :: rest) pos) (tE C W (eAnd a' b')) := by
  refine PE.imp (pe_and ha hb) fun σ H Q h => ?_
  obtain ⟨ρ, M, env, rh, re, p⟩ := h
  refine ⟨ρ, M, env, rh, re, p.bind.imp (fun d M1 ρ1 H1 e1 rh1 p2 v rv => ?_) (fun _ _ _ _ _ _ q => q)⟩
  cases d with
  | bl k =>
    unfold RV at rv
    refine ⟨k, rv, ?_⟩
    cases k with
    | true => exact ⟨ρ1, M1, env, rh1, re.mono e1, p2⟩
    | false => exact p2.now rh1 _ (by unfold RV; rfl)
  | _ => exact p2.elim
theorem m_or {a b : Expr} {rest : List Expr} {a' b' : Fe} {pos : Pos} (ha : PE X a (tE C W a')) (hb : PE X (.BoolOp .Or (b :: rest) pos) (tE C W b')) : PE X (.BoolOp .Or (a :: b :: rest) pos) (tE C W (eOr a' b')) := by
  refine PE.imp (pe_or ha hb) fun σ H Q h => ?_
  obtain ⟨ρ, M, env, rh, re, p⟩ := h
  refine ⟨ρ, M, env, rh, re, p.bind.imp (fun d M1 ρ1 H1 e1 rh1 p2 v rv => ?_) (fun _ _ _ _ _ _ q => q)⟩
  cases d with
  | bl k =>
    unfold RV at rv
    refine ⟨k, rv, ?_⟩
    cases k with
    | false => exact ⟨ρ1, M1, env, rh1, re.mono e1, p2⟩
    | true => exact p2.now rh1 _ (by unfold RV; rfl)
  | _ => exact p2.elim
/-- not a as a value, a any test (through a bool) -/
theorem m_not {a : Expr} {a' : Fe} {pos : Pos} (ha : PE X a (tE C W a')) : PE X (.UnaryOp .Not a pos) (tE C W (eT (cNot (cB a')))) := by
  refine PE.imp (pe_not ha) fun σ H Q h => ?_
  obtain ⟨ρ, M, env, rh, re, p⟩ := h
  have p := p.bind.bind.bind
  refine ⟨ρ, M, env, rh, re, p.imp (fun d M1 ρ1 H1 e1 rh1 p2 v rv => ?_) (fun _ _ _ _ _ _ q => q)⟩
  cases d with
  | bl k =>
    unfold RV at rv
    exact ⟨k, rv, ((p2.now rh1).now rh1).now rh1 _ (by unfold RV; rfl)⟩
  | _ => exact p2.elim
theorem m_ifExp {c a b : Expr} {c' : Ft} {a' b' : Fe} {pos : Pos} (hc : PT X c (tT C W c')) (ha : PE X a (tE C W a')) (hb : PE X b (tE C W b')) : PE X (.IfExp c a b pos) (tE C W (eIf c' a' b')) := by
  refine PE.imp (pe_ifExp hc ha hb) fun σ H Q h => ?_
  obtain ⟨ρ, M, env, rh, re, p⟩ := h
  refine ⟨ρ, M, env, rh, re, p.bind.imp (fun d M1 ρ1 H1 e1 rh1 p2 v rv => ?_) (fun _ _ _ _ _ _ q => q)⟩
  subst rv
  cases v with
  | true => exact ⟨ρ1, M1, env, rh1, re.mono e1, p2⟩
  | false => exact ⟨ρ1, M1, env, rh1, re.mono e1, p2⟩

/-! ### displays, arguments -/
theorem ma_nil : PA X [] (tA C W aNil) := PA.imp pa_nil fun σ H Q h => by
  obtain ⟨ρ, M, env, rh, re, p⟩ := h
  exact p.now rh [] RVs.nil
theorem ma_cons {e : Expr} {es : List Expr} {a' : Fe} {r' : Fa} (ha : PE X e (tE C W a')) (hr : PA X es (tA C W r')) (hs : starEach (e :: es) X.env = (false, eval e X.env) :: starEach es X.env := by rfl) : PA X (e :: es) (tA C W (aCons a' r')) := by
  refine PA.imp (pa_cons ha hr hs) fun σ H Q h => ?_
  obtain ⟨ρ, M, env, rh, re, p⟩ := h
  refine ⟨ρ, M, env, rh, re, p.bind.imp (fun d M1 ρ1 H1 e1 rh1 p2 v rv => ?_) (fun _ _ _ _ _ _ q => q)⟩
  exact ⟨ρ1, M1, env, rh1, re.mono e1, p2.bind.imp (fun ds M2 ρ2 H2 e2 rh2 p3 vs rvs => p3.now rh2 _ (RVs.cons (rv.mono e2) rvs)) (fun _ _ _ _ _ _ q => q)⟩
theorem m_tup {es : List Expr} {t' : Fa} {k : Nat} {pos : Pos} (ht : PA X es (tA C W t')) : PE X (.Tuple es k pos) (tE C W (eTup t')) := by
  refine PE.imp (pe_tup ht) fun σ H Q h => ?_
  obtain ⟨ρ, M, env, rh, re, p⟩ := h
  refine ⟨ρ, M, env, rh, re, p.bind.imp (fun ds M1 ρ1 H1 e1 rh1 p2 vs rvs => ?_) (fun _ _ _ _ _ _ q => q)⟩
  by_cases hl : ds.length ≤ SL
  · rw [if_pos hl] at p2
    refine ⟨by rw [rvs.len, sizeLine_eq]; exact hl, fun a ha => ?_⟩
    have e2 : Ext C.K ρ1 ρ1 H1 (upd H1 a (.tup vs)) := Ext.new (C := C) ha
    refine p2 ρ1 _ e2 (rh1.beside ha) (.ref a) ?_
    unfold RV
    exact ⟨a, vs, rfl, SqT.of upd_same, rvs.mono e2⟩
  · rw [if_neg hl] at p2
    exact p2.elim
theorem m_lst {es : List Expr} {t' : Fa} {pos : Pos} (ht : PA X es (tA C W t')) : PE X (.List es pos) (tE C W (eLst t')) := by
  refine PE.imp (pe_lst ht) fun σ H Q h => ?_
  obtain ⟨ρ, M, env, rh, re, p⟩ := h
  refine ⟨ρ, M, env, rh, re, p.bind.imp (fun ds M1 ρ1 H1 e1 rh1 p2 vs rvs => ?_) (fun _ _ _ _ _ _ q => q)⟩
  by_cases hl : ds.length ≤ SL
  · rw [if_pos hl] at p2
    refine ⟨by rw [rvs.len, sizeLine_eq]; exact hl, fun a ha => ?_⟩
    have e2 : Ext C.K ρ1 (ρ1 ++ [a]) H1 (upd H1 a (.lst vs)) := Ext.new1 (C := C) ha
    refine p2 _ _ e2 (rh1.push ha ⟨vs, upd_same, rvs.mono e2⟩) (.ref a) ?_
    unfold RV
    refine ⟨a, ?_, rfl⟩
    rw [← rh1.len, List.getElem?_append_right (Nat.le_refl _), Nat.sub_self]
    rfl
  · rw [if_neg hl] at p2
    exact p2.elim
end
end Mi
set_option maxRecDepth 100000
/-! Statements, loops, defs. -/
namespace Mi
open PySem PySem.Spec PyProof.Rows L2
def PostS (C : Cfg) (ρ : List Addr) (H : Hp) (r : RS) (D : Ends) (W : WX) : Prop := match r with
  | .ok .nx env M' => ∀ ρ' H' σ', Ext C.K ρ ρ' H H' → RH C ρ' H' M' → RE C.K H' ρ' env σ' → D.nx σ' H'
  | .ok .brk env M' => ∀ ρ' H' σ', Ext C.K ρ ρ' H H' → RH C ρ' H' M' → RE C.K H' ρ' env σ' → D.bk σ' H'
  | .ok .cnt env M' => ∀ ρ' H' σ', Ext C.K ρ ρ' H H' → RH C ρ' H' M' → RE C.K H' ρ' env σ' → D.ct σ' H'
  | .ok (.ret d) _ M' => ∀ ρ' H' v, Ext C.K ρ ρ' H H' → RH C ρ' H' M' → RV C.K H' ρ' d v → D.rt v H'
  | .exc x env M' => ∀ ρ' H' σ' cls dd, Ext C.K ρ ρ' H H' → RH C ρ' H' M' → RE C.K H' ρ' env σ' → RX C H' ρ' x cls dd → W cls dd σ' H'
  | .bad => False
def tS (C : Cfg) (W : WX) (f : Fs) : TS := fun D σ H => ∃ ρ M env, RH C ρ H M ∧ RE C.K H ρ env σ ∧ PostS C ρ H (f env M) D W
section
variable {C : Cfg} {W : WX} {ρ ρ' : List Addr} {H H' : Hp} {r : RS} {D D' : Ends} {env : Env} {σ : L2.St} {M : Hm}
theorem PostS.ext (p : PostS C ρ H r D W) (e : Ext C.K ρ ρ' H H') : PostS C ρ' H' r D W := by
  cases r with
  | ok o env M =>
    cases o with
    | nx => exact fun a b c e2 => p a b c (e.trans e2)
    | brk => exact fun a b c e2 => p a b c (e.trans e2)
    | cnt => exact fun a b c e2 => p a b c (e.trans e2)
    | ret d => exact fun a b c e2 => p a b c (e.trans e2)
  | exc x env M => exact fun a b c d1 d2 e2 => p a b c d1 d2 (e.trans e2)
  | bad => exact p
theorem PostS.st {α : Type} {r : R α} {f : α → Hm → RS} (p : PostS C ρ H (r.st env f) D W) (re : RE C.K H ρ env σ) :
    Post C ρ H r (fun a M' ρ' H' => PostS C ρ' H' (f a M') D W) (fun x _ ρ' H' => ∀ cls dd, RX C H' ρ' x cls dd → W cls dd σ H') := by
  cases r with
  | ok a M =>
    have p' : PostS C ρ H (f a M) D W := p
    exact fun ρ2 H2 e2 _ => p'.ext e2
  | exc x M =>
    have p' : ∀ ρ' H' σ' cls dd, Ext C.K ρ ρ' H H' → RH C ρ' H' M → RE C.K H' ρ' env σ' → RX C H' ρ' x cls dd → W cls dd σ' H' := p
    exact fun ρ2 H2 e2 h2 cls dd => p' ρ2 H2 σ cls dd e2 h2 (re.mono e2)
  | bad => exact p
theorem PostS.nx (p : PostS C ρ H (.ok .nx env M) D W) (h : RH C ρ H M) (re : RE C.K H ρ env σ) : D.nx σ H := p ρ H σ Ext.refl h re
theorem PostS.brk (p : PostS C ρ H (.ok .brk env M) D W) (h : RH C ρ H M) (re : RE C.K H ρ env σ) : D.bk σ H := p ρ H σ Ext.refl h re
theorem PostS.cnt (p : PostS C ρ H (.ok .cnt env M) D W) (h : RH C ρ H M) (re : RE C.K H ρ env σ) : D.ct σ H := p ρ H σ Ext.refl h re
theorem PostS.ret {d : MV} {v : V} (p : PostS C ρ H (.ok (.ret d) env M) D W) (h : RH C ρ H M) (r : RV C.K H ρ d v) : D.rt v H := p ρ H v Ext.refl h r
end

/-! ### targets -/
def tGt (C : Cfg) (vs : List Nat) (f : Ftg) : TG := fun v σ H Q => ∃ ρ M env d G, RH C ρ H M ∧ RE C.K H ρ env σ ∧ RV C.K H ρ d v ∧
  Post C ρ H (f d env M) (fun env' _ ρ' H' => ∀ σ', RE C.K H' ρ' env' σ' → wipe σ' vs = wipe σ vs → Q σ' H') G
def tGs (C : Cfg) (vs : List Nat) (f : Ftgs) : TGs := fun xs σ H Q => ∃ ρ M env ds G, RH C ρ H M ∧ RE C.K H ρ env σ ∧ RVs C.K H ρ ds xs ∧
  Post C ρ H (f ds env M) (fun env' _ ρ' H' => ∀ σ', RE C.K H' ρ' env' σ' → wipe σ' vs = wipe σ vs → Q σ' H') G
theorem wipe_set {σ : L2.St} {i : Nat} {x : Option V} : ∀ {vs : List Nat}, i ∈ vs → wipe (σ.set i x) vs = wipe σ vs
  | v :: vs, h => by
    unfold wipe
    by_cases hm : i ∈ vs
    · rw [wipe_set hm]
    · have e : i = v := by
        rcases List.mem_cons.mp h with e | e
        · exact e
        · exact absurd e hm
      subst e
      have key : ∀ (us : List Nat) (τ : L2.St), i ∉ us → wipe (τ.set i x) us = (wipe τ us).set i x := by
        intro us
        induction us with
        | nil => intro τ _; rfl
        | cons u us ih =>
          intro τ hn
          unfold wipe
          rw [ih τ (fun z => hn (List.mem_cons_of_mem _ z))]
          exact List.set_comm _ _ (fun z => hn (by rw [z]; exact List.mem_cons_self))
      rw [key vs σ hm, List.set_set]
section
variable {X : Cx} {C : Cfg} {W : WX}
theorem mg_name {i : Nat} {x : Str} {vs : List Nat} {pos : Pos} (hN : X.N.Nodup) (hm : i ∈ vs := by first | decide | simp) (hi : X.N[i]? = some x := by rfl) (hx : Loc X.env.scope x := by first | exact Or.inl rfl | exact Or.inr rfl)
    (hf : X.fn x = true ∨ X.env.scope.names.lookup x = some .local := by first | exact .inl rfl | exact .inr rfl | assumption) : PG X (.Name x pos) (tGt C vs (gN i)) := by
  refine PG.imp (pg_name hN hi hx hf) fun v σ H Q h => ?_
  obtain ⟨ρ, M, env, d, G, rh, re, rv, p⟩ := h
  exact p.now rh _ (re.set i rv) (wipe_set hm)
theorem mgs_nil {vs : List Nat} : PGs X [] (tGs C vs gsNil) := by
  refine PGs.imp pgs_nil fun xs σ H Q h => ?_
  obtain ⟨ρ, M, env, ds, G, rh, re, rvs, p⟩ := h
  cases ds with
  | nil =>
    unfold RVs at rvs
    exact ⟨rvs, p.now rh _ re rfl⟩
  | cons d ds => exact p.elim
theorem mgs_cons {vs : List Nat} {e : Expr} {es : List Expr} {g : Ftg} {r : Ftgs} (h1 : PG X e (tGt C vs g)) (h2 : PGs X es (tGs C vs r))
    (hs : (assignEach (e :: es) X.env).map (·.2) = assign e X.env :: (assignEach es X.env).map (·.2) := by rfl) : PGs X (e :: es) (tGs C vs (gsCons g r)) := by
  refine PGs.imp (pgs_cons h1 h2 hs) fun xs σ H Q h => ?_
  obtain ⟨ρ, M, env, ds, G, rh, re, rvs, p⟩ := h
  cases ds with
  | nil => exact p.elim
  | cons d ds =>
    unfold RVs at rvs
    obtain ⟨v, ws, rfl, r1, r2⟩ := rvs
    refine ⟨v, ws, rfl, ρ, M, env, d, G, rh, re, r1, p.bind.imp (fun env1 M1 ρ1 H1 e1 rh1 p2 σ1 re1 hw => ?_) (fun _ _ _ _ _ _ q => q)⟩
    exact ⟨ρ1, M1, env1, ds, G, rh1, re1, r2.mono e1, p2.imp (fun env2 M2 ρ2 H2 e2 rh2 p3 σ2 re2 hw2 => p3 σ2 re2 (hw2.trans hw)) (fun _ _ _ _ _ _ q => q)⟩
theorem mg_tup {vs : List Nat} {es : List Expr} {k : Nat} {r : Ftgs} {n : Nat} {pos : Pos} (hc : X.calm = true) (hC : C.K = X.K) (h : PGs X es (tGs C vs r))
    (hn : (assignEach es X.env).length = n := by rfl) (hst : (assignEach es X.env).findIdx? (·.1) = none := by rfl) : PG X (.Tuple es k pos) (tGt C vs (gT n r)) := by
  refine PG.imp (pg_tup hc h hn hst) fun v σ H Q h => ?_
  obtain ⟨ρ, M, env, d, G, rh, re, rv, p⟩ := h
  cases d with
  | tup l =>
    unfold RV at rv
    obtain ⟨a, xs, rfl, h2, h3⟩ := rv
    by_cases hl : l.length = n
    · simp only [gT, if_pos hl] at p
      exact ⟨a, xs, rfl, by rw [← hC]; exact h2, by rw [h3.len]; exact hl, ρ, M, env, l, G, rh, re, h3, p⟩
    · simp only [gT, if_neg hl] at p
      exact p.elim
  | _ => exact p.elim

/-! ### plain statements -/
theorem ms_nil : PSs X [] (tS C W sNx) := PSs.imp pss_nil fun D σ H h => by
  obtain ⟨ρ, M, env, rh, re, p⟩ := h
  exact p.nx rh re
theorem ms_cons {st : Stmt} {rest : List Stmt} {a b : Fs} (h1 : PS X st (tS C W a)) (h2 : PSs X rest (tS C W b)) : PSs X (st :: rest) (tS C W (sSeq a b)) := by
  refine PSs.imp (pss_cons h1 h2) fun D σ H h => ?_
  obtain ⟨ρ, M, env, rh, re, p⟩ := h
  refine ⟨ρ, M, env, rh, re, ?_⟩
  unfold sSeq at p
  cases e : a env M with
  | bad => rw [e] at p; exact p
  | exc x env1 M1 => rw [e] at p; exact p
  | ok o env1 M1 =>
    rw [e] at p
    cases o with
    | nx =>
      have p' : PostS C ρ H (b env1 M1) D W := p
      exact fun ρ' H' σ' e1 rh1 re1 => ⟨ρ', M1, env1, rh1, re1, p'.ext e1⟩
    | brk => exact p
    | cnt => exact p
    | ret d => exact p
theorem ms_one {st : Stmt} {a : Fs} (h1 : PS X st (tS C W a)) : PSs X [st] (tS C W a) := pss_one h1
theorem m_set {i : Nat} {x : Str} {e : Expr} {e' : Fe} {pos pos' : Pos} (hN : X.N.Nodup) (he : PE X e (tE C W e')) (hi : X.N[i]? = some x := by rfl) (hx : Loc X.env.scope x := by first | exact Or.inl rfl | exact Or.inr rfl)
    (hs : swapsWith e (some (.Name x pos')) pos.line X.env = pure false := by rfl) (hf : X.fn x = true ∨ X.env.scope.names.lookup x = some .local := by first | exact .inl rfl | exact .inr rfl | assumption) : PS X (.Assign [.Name x pos'] e pos) (tS C W (sSet i e')) := by
  refine PS.imp (ps_set hN hi hx he hs hf) fun D σ H h => ?_
  obtain ⟨ρ, M, env, rh, re, p⟩ := h
  exact ⟨ρ, M, env, rh, re, (p.st re).imp (fun d M1 ρ1 H1 e1 rh1 p2 v rv => p2.nx rh1 ((re.mono e1).set i rv)) (fun _ _ _ _ _ _ q => q)⟩
theorem m_asg {tg e : Expr} {e' : Fe} {g : Ftg} {vs : List Nat} {pos : Pos} (he : PE X e (tE C W e')) (hg : PG X tg (tGt C vs g)) (hs : swapsWithSole [tg] e pos.line X.env = pure false := by rfl) (hw : swappedStores [tg] e X.env = pure none := by rfl)
    (h1 : (assignEach [tg] X.env).map (·.2) = [assign tg X.env] := by rfl) : PS X (.Assign [tg] e pos) (tS C W (sAsg g e')) := by
  refine PS.imp (ps_asg he hg hs hw h1) fun D σ H h => ?_
  obtain ⟨ρ, M, env, rh, re, p⟩ := h
  refine ⟨ρ, M, env, rh, re, (p.st re).imp (fun d M1 ρ1 H1 e1 rh1 p2 v rv => ?_) (fun _ _ _ _ _ _ q => q)⟩
  exact ⟨ρ1, M1, env, d, _, rh1, re.mono e1, rv, (p2.st (re.mono e1)).imp (fun env2 M2 ρ2 H2 e2 rh2 p3 σ' re' _ => p3.nx rh2 re') (fun _ _ _ _ _ _ q => q)⟩
theorem m_ex {e : Expr} {e' : Fe} {pos : Pos} (he : PE X e (tE C W e')) (hs : swapsWith e none pos.line X.env = pure false := by rfl) : PS X (.Expr e pos) (tS C W (sEx e')) := by
  refine PS.imp (ps_expr he hs) fun D σ H h => ?_
  obtain ⟨ρ, M, env, rh, re, p⟩ := h
  exact ⟨ρ, M, env, rh, re, (p.st re).imp (fun d M1 ρ1 H1 e1 rh1 p2 v rv => p2.nx rh1 (re.mono e1)) (fun _ _ _ _ _ _ q => q)⟩
theorem m_ret {e : Expr} {e' : Fe} {pos : Pos} (he : PE X e (tE C W e')) : PS X (.Return (some e) pos) (tS C W (sRet e')) := by
  refine PS.imp (ps_ret he) fun D σ H h => ?_
  obtain ⟨ρ, M, env, rh, re, p⟩ := h
  exact ⟨ρ, M, env, rh, re, (p.st re).imp (fun d M1 ρ1 H1 e1 rh1 p2 v rv => p2.ret rh1 rv) (fun _ _ _ _ _ _ q => q)⟩
theorem m_retN {pos : Pos} : PS X (.Return none pos) (tS C W sRetN) := PS.imp ps_retN fun D σ H h => by
  obtain ⟨ρ, M, env, rh, re, p⟩ := h
  exact p.ret rh (by unfold RV; rfl)
theorem m_pass {pos : Pos} : PS X (.Pass pos) (tS C W sNx) := PS.imp ps_pass fun D σ H h => by
  obtain ⟨ρ, M, env, rh, re, p⟩ := h
  exact p.nx rh re
theorem m_break {pos : Pos} : PS X (.Break pos) (tS C W sBrk) := PS.imp ps_break fun D σ H h => by
  obtain ⟨ρ, M, env, rh, re, p⟩ := h
  exact p.brk rh re
theorem m_continue {pos : Pos} : PS X (.Continue pos) (tS C W sCnt) := PS.imp ps_continue fun D σ H h => by
  obtain ⟨ρ, M, env, rh, re, p⟩ := h
  exact p.cnt rh re
theorem m_if {c : Expr} {a b : List Stmt} {c' : Ft} {a' b' : Fs} {pos : Pos} (hc : PT X c (tT C W c')) (ha : PSs X a (tS C W a')) (hb : PSs X b (tS C W b')) : PS X (.If c a b pos) (tS C W (sIf c' a' b')) := by
  refine PS.imp (ps_if hc ha hb) fun D σ H h => ?_
  obtain ⟨ρ, M, env, rh, re, p⟩ := h
  refine ⟨ρ, M, env, rh, re, (p.st re).imp (fun k M1 ρ1 H1 e1 rh1 p2 v rv => ?_) (fun _ _ _ _ _ _ q => q)⟩
  subst rv
  cases v with
  | true => exact ⟨ρ1, M1, env, rh1, re.mono e1, p2⟩
  | false => exact ⟨ρ1, M1, env, rh1, re.mono e1, p2⟩
theorem m_aug {op : Operator} {r : R2} {f : MV → MV → Hm → R MV} {i : Nat} {x : Str} {e : Expr} {e' : Fe} {pos pos' : Pos} (hN : X.N.Nodup) (ho : OpR X (inplaceOp op) r) (hs : Sim2 C f r) (he : PE X e (tE C W e')) (hi : X.N[i]? = some x := by rfl)
    (hx : Loc X.env.scope x := by first | exact Or.inl rfl | exact Or.inr rfl) (hf : X.fn x = true ∨ X.env.scope.names.lookup x = some .local := by first | exact .inl rfl | exact .inr rfl | assumption) : PS X (.AugAssign (.Name x pos') op e pos) (tS C W (sAug f i e')) := by
  have hp : PIp X op r := fun pins s σ H x y v u Q I rx ry h => ho pins s σ H x y v u Q I rx ry h
  refine PS.imp (ps_aug hN hi hx he hp hf) fun D σ H h => ?_
  obtain ⟨ρ, M, env, rh, re, p⟩ := h
  unfold sAug at p
  split at p
  · rename_i d e0
    obtain ⟨v, e1, rd⟩ := re.at_ i d e0
    refine ⟨v, e1, ρ, M, env, rh, re, (p.st re).imp (fun d2 M1 ρ1 H1 e1 rh1 p2 w rw => ?_) (fun _ _ _ _ _ _ q => q)⟩
    exact hs ρ1 H1 M1 d d2 v w _ _ rh1 (rd.mono e1) rw ((p2.st (re.mono e1)).imp (fun z M2 ρ2 H2 e2 rh2 p3 u ru => p3.nx rh2 (((re.mono e1).mono e2).set i ru)) (fun _ _ _ _ _ _ q => q))
  · exact p.elim

/-! ### while -/
theorem m_while {c : Expr} {body : List Stmt} {c' : Ft} {b' : Fs} {pos : Pos} (hp : PassesOwn (model X.prog X.w) X.A X.env X.xe) (hc : PT X c (tT C W c')) (hb : PSs X body (tS C W b')) : PS X (.While c body [] pos) (tS C W (sWhl c' b')) := by
  refine PS.imp (ps_while hp hc hb) fun D σ H h => ?_
  obtain ⟨ρ, M, env, rh, re, p⟩ := h
  refine ⟨fun m σ H => ∃ ρ M env, RH C ρ H M ∧ RE C.K H ρ env σ ∧ PostS C ρ H (whlGo c' b' m env M) D W, ⟨WL, ρ, M, env, rh, re, p⟩, fun m σ H h => ?_⟩
  obtain ⟨ρ, M, env, rh, re, p⟩ := h
  cases m with
  | zero => exact p.elim
  | succ n =>
    refine ⟨ρ, M, env, rh, re, (p.st re).imp (fun k M1 ρ1 H1 e1 rh1 p2 v rv => ?_) (fun _ _ _ _ _ _ q => q)⟩
    subst rv
    cases v with
    | false => exact p2.nx rh1 (re.mono e1)
    | true =>
      have p2 : PostS C ρ1 H1 (match b' env M1 with
        | .ok .nx env2 M2 => whlGo c' b' n env2 M2
        | .ok .cnt env2 M2 => whlGo c' b' n env2 M2
        | .ok .brk env2 M2 => .ok .nx env2 M2
        | r => r) D W := p2
      refine ⟨fun σ H => ∃ ρ M env, RH C ρ H M ∧ RE C.K H ρ env σ ∧ PostS C ρ H (whlGo c' b' n env M) D W, fun σ' H' h => ⟨n, Nat.lt_succ_self n, h⟩, ρ1, M1, env, rh1, re.mono e1, ?_⟩
      cases e : b' env M1 with
      | bad => rw [e] at p2; exact p2
      | exc x env2 M2 => rw [e] at p2; exact p2
      | ok o env2 M2 =>
        rw [e] at p2
        cases o with
        | nx =>
          have p' : PostS C ρ1 H1 (whlGo c' b' n env2 M2) D W := p2
          exact fun ρ' H' σ' e1 rh1 re1 => ⟨ρ', M2, env2, rh1, re1, p'.ext e1⟩
        | cnt =>
          have p' : PostS C ρ1 H1 (whlGo c' b' n env2 M2) D W := p2
          exact fun ρ' H' σ' e1 rh1 re1 => ⟨ρ', M2, env2, rh1, re1, p'.ext e1⟩
        | brk => exact p2
        | ret d => exact p2

/-! ### for -/
/-- an iterator of the layer, and what comes by the small language -/
structure ItOk (C : Cfg) (H0 : Hp) (ρ0 : List Addr) (ni : Ni) (J : It) : Prop where
  stop : ∀ ρ H M k, Ext C.K ρ0 ρ H0 H → RH C ρ H M → ni M k = some none → J.stop k H
  go : ∀ ρ H M k x, Ext C.K ρ0 ρ H0 H → RH C ρ H M → ni M k = some (some x) → J.go k H
  yld : ∀ ρ H M k x v H', Ext C.K ρ0 ρ H0 H → RH C ρ H M → ni M k = some (some x) → J.yld k H v H' → Ext C.K ρ ρ H H' ∧ RH C ρ H' M ∧ RV C.K H' ρ x v
abbrev tIt (C : Cfg) (W : WX) (f : Fi) : TI := tG C W (fun H ρ p J => ItOk C H ρ p.1 J) f
theorem m_for {tg iter : Expr} {body : List Stmt} {it : Fi} {g : Ftg} {vs : List Nat} {b' : Fs} {pos : Pos} (hp : PassesOwn (model X.prog X.w) X.A X.env X.xe) (hc : X.calm = true) (hi : PI X tg iter (tIt C W it)) (hg : PG X tg (tGt C vs g)) (hb : PSs X body (tS C W b'))
    (hs : ∀ x, foldedSetIterable iter X.env x = pure x := by intro _; rfl) : PS X (.For tg iter body [] pos) (tS C W (sFor it g b')) := by
  refine PS.imp (ps_for hp hc hi hg hb hs) fun D σ H h => ?_
  obtain ⟨ρ, M, env, rh, re, p⟩ := h
  refine ⟨ρ, M, env, rh, re, (p.st re).imp (fun ni M1 ρ1 H1 e1 rh1 p2 J ok => ?_) (fun _ _ _ _ _ _ q => q)⟩
  obtain ⟨ni, n0⟩ := ni
  refine ⟨fun i m σ H => ∃ ρ M env, Ext C.K ρ1 ρ H1 H ∧ RH C ρ H M ∧ RE C.K H ρ env σ ∧ PostS C ρ H (forGo ni g b' m i env M) D W, ⟨n0, ρ1, M1, env, Ext.refl, rh1, re.mono e1, p2⟩, fun i m σ H h => ?_⟩
  obtain ⟨ρ, M, env, ex, rh, re, p⟩ := h
  cases m with
  | zero => exact p.elim
  | succ n =>
    unfold forGo at p
    cases hn : ni M i with
    | none => rw [hn] at p; exact p.elim
    | some o =>
      cases o with
      | none =>
        rw [hn] at p
        exact .inl ⟨ok.stop ρ H M i ex rh hn, p.nx rh re⟩
      | some x =>
        rw [hn] at p
        have p : PostS C ρ H ((g x env M).st env fun env1 M1 => match b' env1 M1 with
          | .ok .nx env2 M2 => forGo ni g b' n (i + 1) env2 M2
          | .ok .cnt env2 M2 => forGo ni g b' n (i + 1) env2 M2
          | .ok .brk env2 M2 => .ok .nx env2 M2
          | r => r) D W := p
        refine .inr ⟨ok.go ρ H M i x ex rh hn, fun σ H => ∃ ρ M env, Ext C.K ρ1 ρ H1 H ∧ RH C ρ H M ∧ RE C.K H ρ env σ ∧ PostS C ρ H (forGo ni g b' n (i + 1) env M) D W, fun σ' H' h => ⟨n, Nat.lt_succ_self n, h⟩, fun v H' hy => ?_⟩
        obtain ⟨e2, rh2, rv⟩ := ok.yld ρ H M i x v H' ex rh hn hy
        have re2 := re.mono e2
        refine ⟨ρ, M, env, x, _, rh2, re2, rv, ((p.ext e2).st re2).imp (fun env1 M2 ρ2 H2 e3 rh3 p3 σ1 re3 _ => ?_) (fun _ _ _ _ _ _ q => q)⟩
        have ex2 := (ex.trans e2).trans e3
        refine ⟨ρ2, M2, env1, rh3, re3, ?_⟩
        cases e : b' env1 M2 with
        | bad => rw [e] at p3; exact p3
        | exc x env2 M3 => rw [e] at p3; exact p3
        | ok o env2 M3 =>
          rw [e] at p3
          cases o with
          | nx =>
            have p' : PostS C ρ2 H2 (forGo ni g b' n (i + 1) env2 M3) D W := p3
            exact fun ρ' H' σ' e1 rh1 re1 => ⟨ρ', M3, env2, ex2.trans e1, rh1, re1, p'.ext e1⟩
          | cnt =>
            have p' : PostS C ρ2 H2 (forGo ni g b' n (i + 1) env2 M3) D W := p3
            exact fun ρ' H' σ' e1 rh1 re1 => ⟨ρ', M3, env2, ex2.trans e1, rh1, re1, p'.ext e1⟩
          | brk => exact p3
          | ret d => exact p3

/-! ### what is walked -/
theorem itok_list {i : Nat} {a : Addr} {ρ : List Addr} {H : Hp} (ha : ρ[i]? = some a) : ItOk C H ρ (nL i) (Itl C.K a) := by
  have at_ : ∀ {ρ2 : List Addr} {H2 : Hp} {M : Hm} {k : Nat} {o : Option MV}, Ext C.K ρ ρ2 H H2 → RH C ρ2 H2 M → nL i M k = some o → ∃ l xs, M[i]? = some (.lst l) ∧ o = l[k]? ∧ H2 a = some (.lst xs) ∧ RVs C.K H2 ρ2 l xs := fun {ρ2 H2 M k o} e rh q => by
    unfold nL at q
    split at q
    · rename_i l hm
      obtain ⟨xs, h1, h2⟩ := rh.at hm (e.ix ha)
      exact ⟨l, xs, hm, (Option.some.inj q).symm, h1, h2⟩
    · cases q
  refine ⟨fun ρ2 H2 M k e rh q => ?_, fun ρ2 H2 M k x e rh q => ?_, fun ρ2 H2 M k x v H' e rh q y => ?_⟩
  · obtain ⟨l, xs, hm, hk, h1, h2⟩ := at_ e rh q
    refine ⟨xs, SqL.of h1, ?_⟩
    have := List.getElem?_eq_none_iff.mp hk.symm
    rw [h2.len]
    exact this
  · obtain ⟨l, xs, hm, hk, h1, h2⟩ := at_ e rh q
    obtain ⟨v, e1, _⟩ := h2.get hk.symm
    exact ⟨xs, v, SqL.of h1, e1⟩
  · obtain ⟨l, xs, hm, hk, h1, h2⟩ := at_ e rh q
    obtain ⟨w, e1, r⟩ := h2.get hk.symm
    obtain ⟨rfl, y2⟩ := y
    have e2 := y2 xs (SqL.of h1)
    rw [e1] at e2
    cases e2
    exact ⟨Ext.refl, rh, r⟩
theorem itok_rol {l : List MV} {xs : List V} {a : Addr} {ρ : List Addr} {H : Hp} (hs : FzL C.K H a xs) (hr : RVs C.K H ρ l xs) : ItOk C H ρ (nT l) (Itl C.K a) := by
  refine ⟨fun ρ2 H2 M k e rh q => ?_, fun ρ2 H2 M k x e rh q => ?_, fun ρ2 H2 M k x v H' e rh q y => ?_⟩
  · refine ⟨xs, (e.fz _ _ hs).sq, ?_⟩
    have := List.getElem?_eq_none_iff.mp (Option.some.inj q)
    rw [hr.len]
    exact this
  · obtain ⟨v, e1, _⟩ := hr.get (Option.some.inj q)
    exact ⟨xs, v, (e.fz _ _ hs).sq, e1⟩
  · obtain ⟨w, e1, r⟩ := hr.get (Option.some.inj q)
    obtain ⟨rfl, y2⟩ := y
    have e2 := y2 xs (e.fz _ _ hs).sq
    rw [e1] at e2
    cases e2
    exact ⟨Ext.refl, rh, r.mono e⟩
theorem itok_tup {l : List MV} {xs : List V} {a : Addr} {ρ : List Addr} {H : Hp} (hs : SqT C.K H a xs) (hr : RVs C.K H ρ l xs) : ItOk C H ρ (nT l) (Itt C.K a) := by
  refine ⟨fun ρ2 H2 M k e rh q => ?_, fun ρ2 H2 M k x e rh q => ?_, fun ρ2 H2 M k x v H' e rh q y => ?_⟩
  · refine ⟨xs, e.tup _ _ hs, ?_⟩
    have := List.getElem?_eq_none_iff.mp (Option.some.inj q)
    rw [hr.len]
    exact this
  · obtain ⟨v, e1, _⟩ := hr.get (Option.some.inj q)
    exact ⟨xs, v, e.tup _ _ hs, e1⟩
  · obtain ⟨w, e1, r⟩ := hr.get (Option.some.inj q)
    obtain ⟨rfl, y2⟩ := y
    have e2 := y2 xs (e.tup _ _ hs)
    rw [e1] at e2
    cases e2
    exact ⟨Ext.refl, rh, r.mono e⟩
theorem mi_list {tg l : Expr} {l' : Fe} (hC : C.K = X.K) (hl : PE X l (tE C W l')) : PI X tg l (tIt C W (iL l')) := by
  refine PI.imp (pi_list hl) fun σ H Q h => ?_
  obtain ⟨ρ, M, env, rh, re, p⟩ := h
  refine ⟨ρ, M, env, rh, re, p.bind.imp (fun d M1 ρ1 H1 e1 rh1 p2 v rv => ?_) (fun _ _ _ _ _ _ q => q)⟩
  cases d with
  | ref i =>
    unfold RV at rv
    obtain ⟨a, h1, rfl⟩ := rv
    cases hm : M1[i]? with
    | none => simp only [hm] at p2; exact p2.elim
    | some o =>
      cases o with
      | lst l =>
        simp only [hm] at p2
        obtain ⟨xs, q1, q2⟩ := rh1.at hm h1
        exact ⟨a, rfl, ⟨xs, SqL.of q1⟩, p2.now rh1 _ (by rw [← hC]; exact itok_list h1)⟩
      | dic l => simp only [hm] at p2; exact p2.elim
      | ins c fs => simp only [hm] at p2; exact p2.elim
  | rol l =>
    unfold RV at rv
    obtain ⟨a, xs, rfl, h2, h3⟩ := rv
    exact ⟨a, rfl, ⟨xs, by rw [← hC]; exact h2.sq⟩, p2.now rh1 _ (by rw [← hC]; exact itok_rol h2 h3)⟩
  | _ => exact p2.elim
theorem mi_tup {tg l : Expr} {l' : Fe} (hC : C.K = X.K) (hl : PE X l (tE C W l')) : PI X tg l (tIt C W (iT l')) := by
  refine PI.imp (pi_tup hl) fun σ H Q h => ?_
  obtain ⟨ρ, M, env, rh, re, p⟩ := h
  refine ⟨ρ, M, env, rh, re, p.bind.imp (fun d M1 ρ1 H1 e1 rh1 p2 v rv => ?_) (fun _ _ _ _ _ _ q => q)⟩
  cases d with
  | tup l =>
    unfold RV at rv
    obtain ⟨a, xs, rfl, h2, h3⟩ := rv
    exact ⟨a, rfl, ⟨xs, by rw [← hC]; exact h2⟩, p2.now rh1 _ (by rw [← hC]; exact itok_tup h2 h3)⟩
  | _ => exact p2.elim

/-! ### list comprehensions -/
theorem mts_nil : PTs X [] (tT C W cYes) := ⟨fun pins s σ H Q I h => by
  obtain ⟨ρ, M, env, rh, re, p⟩ := h
  exact wpAny_tests_nil ⟨H, I, p.now rh true rfl⟩⟩
theorem mts_one {c : Expr} {c' : Ft} (h : PT X c (tT C W c')) : PTs X [c] (tT C W c') := pts_one h
abbrev W0 : WX := fun _ _ _ _ => False
/-- without what stands at D -/
def er (H : Hp) (D : Addr) : Hp := fun b => if b = D then none else H b
theorem er_self {H : Hp} {D : Addr} : er H D D = none := if_pos rfl
theorem er_ne {H : Hp} {D b : Addr} (h : b ≠ D) : er H D b = H b := if_neg h
theorem er_back {H : Hp} {D : Addr} {u : HO} (h : H D = some u) : upd (er H D) D u = H := by
  funext b
  by_cases e : b = D
  · subst e; rw [upd_same, h]
  · rw [upd_ne e, er_ne e]
theorem er_upd {H : Hp} {D : Addr} {u : HO} : er (upd H D u) D = er H D := by
  funext b
  by_cases e : b = D
  · subst e; rw [er_self, er_self]
  · rw [er_ne e, er_ne e, upd_ne e]
theorem er_free {H : Hp} {D : Addr} (h : H D = none) : er H D = H := by
  funext b
  by_cases e : b = D
  · subst e; rw [er_self, h]
  · rw [er_ne e]
section
variable {ρ ρ' : List Addr} {H H' : Hp} {M : Hm} {D : Addr} {u : HO}
theorem SqT.of_er {K : PySem.W.Frag} {a : Addr} {xs : List V} (h : SqT K (er H D) a xs) : SqT K H a xs := by
  have rd : ∀ w, er H D a = some w → H a = some w := fun w q => by
    by_cases e : a = D
    · rw [e, er_self] at q; cases q
    · rw [er_ne e] at q; exact q
  rcases h with (h | ⟨o, h⟩) | h
  · exact .inl (.inl (rd _ h))
  · exact .inl (.inr ⟨o, rd _ h⟩)
  · exact .inr h
theorem SqT.er {K : PySem.W.Frag} {a : Addr} {xs : List V} (hm : Mut (some u)) (hD : H D = some u) (h : SqT K H a xs) : SqT K (er H D) a xs := by
  have rd : ∀ w, ¬ Mut (some w) → H a = some w → Mi.er H D a = some w := fun w nm q => by
    rw [er_ne (fun e => by rw [e, hD] at q; cases q; exact nm hm)]
    exact q
  rcases h with (h | ⟨o, h⟩) | h
  · exact .inl (.inl (rd _ (fun z => z) h))
  · exact .inl (.inr ⟨o, rd _ (fun z => z) h⟩)
  · exact .inr h
theorem FzL.of_er {K : PySem.W.Frag} {a : Addr} {xs : List V} (h : FzL K (er H D) a xs) : FzL K H a xs := by
  rcases h with ⟨o, h⟩ | h
  · refine .inl ⟨o, ?_⟩
    by_cases e : a = D
    · rw [e, er_self] at h; cases h
    · rw [er_ne e] at h; exact h
  · exact .inr h
theorem FzL.er {K : PySem.W.Frag} {a : Addr} {xs : List V} (hm : Mut (some u)) (hD : H D = some u) (h : FzL K H a xs) : FzL K (er H D) a xs := by
  rcases h with ⟨o, h⟩ | h
  · refine .inl ⟨o, ?_⟩
    rw [er_ne (fun e => by rw [e, hD] at h; cases h; exact hm)]
    exact h
  · exact .inr h
theorem Ext.er {K : PySem.W.Frag} (e : Ext K ρ ρ' H H') (hm : Mut (some u)) (hD : H D = some u) (nD : D ∉ ρ) : Ext K ρ ρ' (er H D) (er H' D) ∧ H' D = some u ∧ D ∉ ρ' := by
  have hD' := e.fr D u hD nD
  have nD' : D ∉ ρ' := fun q => by
    rcases e.nw D q with q | q
    · exact nD q
    · rw [hD] at q; cases q
  refine ⟨⟨⟨e.pre, fun a xs q => SqT.er hm hD' (e.tup a xs (SqT.of_er q)), fun a xs q => FzL.er hm hD' (e.fz a xs (FzL.of_er q))⟩, fun a o q hn => ?_, fun a q => ?_⟩, hD', nD'⟩
  · by_cases z : a = D
    · rw [z, er_self] at q; cases q
    · rw [er_ne z] at q ⊢
      exact e.fr a o q hn
  · rcases e.nw a q with q | q
    · exact .inl q
    · refine .inr ?_
      by_cases z : a = D
      · rw [z, er_self]
      · rw [er_ne z]; exact q
theorem RE.er {env : Env} {σ : L2.St} {K : PySem.W.Frag} (hm : Mut (some u)) (hD : H D = some u) (e : Ext K ρ ρ (er H D) H) (h : RE K (er H D) ρ env σ) : RE K H ρ env σ := h.mono e
theorem Ext.ofEr {K : PySem.W.Frag} (hD : H D = some u) : Ext K ρ ρ (Mi.er H D) H := by
  have q := Ext.new (C := ⟨K, fun _ => 0⟩) (ρ := ρ) (H := Mi.er H D) (a := D) (o := u) er_self
  rw [er_back hD] at q
  exact q
theorem RH.er (h : RH C ρ H M) (nD : D ∉ ρ) (hm : Mut (some u)) (hD : H D = some u) : RH C ρ (Mi.er H D) M := by
  have m : Mo C.K ρ ρ H (Mi.er H D) := ⟨List.prefix_refl _, fun a xs q => SqT.er hm hD q, fun a xs q => FzL.er hm hD q⟩
  refine ⟨h.len, h.nd, fun i o hi => ?_⟩
  obtain ⟨a, ha, r⟩ := h.ob i o hi
  have ne : a ≠ D := fun e => nD (by rw [← e]; exact List.mem_of_getElem? ha)
  exact ⟨a, ha, r.mo m (er_ne ne)⟩
theorem Post.er {α : Type} {r : R α} {F : α → Hm → List Addr → Hp → Prop} {G : MX → Hm → List Addr → Hp → Prop} (hm : Mut (some u)) (hD : H D = some u) (nD : D ∉ ρ) (p : Post C ρ (Mi.er H D) r F G) :
    Post C ρ H r (fun a M' ρ' H' => H' D = some u ∧ D ∉ ρ' ∧ F a M' ρ' (Mi.er H' D)) (fun x M' ρ' H' => G x M' ρ' (Mi.er H' D)) := by
  cases r with
  | ok a M' =>
    intro ρ' H' e rh
    obtain ⟨e', h1, h2⟩ := e.er hm hD nD
    exact ⟨h1, h2, p ρ' _ e' (rh.er h2 hm h1)⟩
  | exc x M' =>
    intro ρ' H' e rh
    obtain ⟨e', h1, h2⟩ := e.er hm hD nD
    exact p ρ' _ e' (rh.er h2 hm h1)
  | bad => exact p
end
theorem wipe_wipe (σ : L2.St) : ∀ vs : List Nat, wipe (wipe σ vs) vs = wipe σ vs := by
  have key : ∀ (us vs : List Nat), (∀ i ∈ us, i ∈ vs) → ∀ τ : L2.St, wipe (wipe τ us) vs = wipe τ vs := by
    intro us
    induction us with
    | nil => intro vs _ τ; rfl
    | cons u us ih =>
      intro vs h τ
      show wipe ((wipe τ us).set u none) vs = wipe τ vs
      rw [wipe_set (h u List.mem_cons_self)]
      exact ih vs (fun i hi => h i (List.mem_cons_of_mem _ hi)) τ
  exact fun vs => key vs vs (fun _ h => h) σ
theorem upd_er {H : Hp} {D : Addr} {u : HO} : upd (er H D) D u = upd H D u := by
  funext b
  by_cases e : b = D
  · subst e; rw [upd_same, upd_same]
  · rw [upd_ne e, upd_ne e, er_ne e]
theorem lc_read {Q : VK} {σ : L2.St} {H : Hp} {it : Fi} {g : Ftg} {c' : Ft} {e' : Fe} {vs : List Nat} (h : tE C W (eLc it g c' e' vs) σ H Q) : tLc (tIt C W it) (tGt C vs g) (tT C W0 c') (tE C W0 e') vs σ H Q := by
  obtain ⟨ρ, M, env, rh, re, p⟩ := h
  refine ⟨ρ, M, env, rh, re, p.bind.imp (fun pn M1 ρ1 H1 e1 rh1 p2 J ok => ?_) (fun _ _ _ _ _ _ q => q)⟩
  obtain ⟨ni, n0⟩ := pn
  intro D hD
  have re1 : RE C.K H1 ρ1 (wipeE env vs) (wipe σ vs) := (re.mono e1).wipe vs
  refine ⟨fun i m H => ∃ ρ M acc ys, Ext C.K ρ1 ρ H1 (er H D) ∧ RH C ρ H M ∧ D ∉ ρ ∧ H D = some (.lst ys) ∧ RVs C.K H ρ acc ys ∧
      Post C ρ (er H D) ((lcGo ni g c' e' (wipeE env vs) m i acc M).bind fun l M2 => .ok (.ref M2.length) (M2 ++ [.lst l])) (fun d _ ρ' H' => ∀ v, RV C.K H' ρ' d v → Q v H') (fun x _ ρ' H' => ∀ cls dd, RX C H' ρ' x cls dd → W cls dd σ H'),
    ⟨n0, ρ1, M1, [], [], ?_, rh1.beside hD, rh1.fresh hD, upd_same, RVs.nil, ?_⟩, fun i m H h => ?_⟩
  · rw [er_upd, er_free hD]; exact Ext.refl
  · rw [er_upd, er_free hD]; exact p2
  obtain ⟨ρ, M, acc, ys, ex, rh, nD, hD2, ra, p⟩ := h
  have rhE := rh.er nD (show Mut (some (.lst ys)) from trivial) hD2
  have exH : Ext C.K ρ1 ρ H1 H := ex.trans (Ext.ofEr hD2)
  cases m with
  | zero => exact p.elim
  | succ n =>
    unfold lcGo at p
    cases hn : ni M i with
    | none => rw [hn] at p; exact p.elim
    | some o =>
      cases o with
      | none =>
        rw [hn] at p
        have p : Post C ρ (er H D) (.ok (.ref M.length) (M ++ [.lst acc])) (fun d _ ρ' H' => ∀ v, RV C.K H' ρ' d v → Q v H') (fun x _ ρ' H' => ∀ cls dd, RX C H' ρ' x cls dd → W cls dd σ H') := p
        refine .inl ⟨ok.stop ρ H M i exH rh hn, ?_⟩
        have e2 : Ext C.K ρ (ρ ++ [D]) (er H D) (upd (er H D) D (.lst ys)) := Ext.new1 (C := C) er_self
        have rh2 : RH C (ρ ++ [D]) (upd (er H D) D (.lst ys)) (M ++ [.lst acc]) := rhE.push er_self ⟨ys, upd_same, by rw [er_back hD2]; exact ra.mo ⟨List.prefix_append _ _, fun _ _ q => q, fun _ _ q => q⟩⟩
        rw [er_back hD2] at e2 rh2
        refine p _ _ e2 rh2 (.ref D) ?_
        unfold RV
        refine ⟨D, ?_, rfl⟩
        rw [← rh.len, List.getElem?_append_right (Nat.le_refl _), Nat.sub_self]
        rfl
      | some x =>
        rw [hn] at p
        have p : Post C ρ (er H D) (((g x (wipeE env vs) M).bindN fun env1 M1 => (c' env1 M1).bindN fun b M2 => if b then (e' env1 M2).bindN fun y M3 => if acc.length < SL then lcGo ni g c' e' (wipeE env vs) n (i + 1) (acc ++ [y]) M3 else .bad else lcGo ni g c' e' (wipeE env vs) n (i + 1) acc M2).bind fun l M2 => .ok (.ref M2.length) (M2 ++ [.lst l])) (fun d _ ρ' H' => ∀ v, RV C.K H' ρ' d v → Q v H') (fun x _ ρ' H' => ∀ cls dd, RX C H' ρ' x cls dd → W cls dd σ H') := p
        rw [R.bindN_bind] at p
        have mu : ∀ {zs : List V}, Mut (some (.lst zs)) := fun {_} => trivial
        refine .inr ⟨ok.go ρ H M i x exH rh hn, fun H => ∃ ρ M acc ys, Ext C.K ρ1 ρ H1 (er H D) ∧ RH C ρ H M ∧ D ∉ ρ ∧ H D = some (.lst ys) ∧ RVs C.K H ρ acc ys ∧
          Post C ρ (er H D) ((lcGo ni g c' e' (wipeE env vs) n (i + 1) acc M).bind fun l M2 => .ok (.ref M2.length) (M2 ++ [.lst l])) (fun d _ ρ' H' => ∀ v, RV C.K H' ρ' d v → Q v H') (fun x _ ρ' H' => ∀ cls dd, RX C H' ρ' x cls dd → W cls dd σ H'), fun H' h => ⟨n, Nat.lt_succ_self n, h⟩, fun v H' hy => ?_⟩
        obtain ⟨e2, rh2, rv⟩ := ok.yld ρ H M i x v H' exH rh hn hy
        obtain ⟨e2E, hD3, _⟩ := e2.er mu hD2 nD
        have ra2 := ra.mono e2
        refine ⟨ρ, M, wipeE env vs, x, _, rh2, re1.mono (exH.trans e2), rv, (Post.er mu hD3 nD (p.ext e2E).bindN).imp (fun env1 M2 ρ2 H2 e3 rh3 ⟨hD4, nD4, p3⟩ σ2 re3 hw => ?_) (fun _ _ _ _ _ _ q => q)⟩
        refine ⟨hw.trans (wipe_wipe σ vs), ?_⟩
        have ra3 := ra2.mono e3
        have ex3 := (ex.trans e2E).trans (e3.er mu hD3 nD).1
        rw [R.bindN_bind] at p3
        refine ⟨ρ2, M2, env1, rh3, re3, (Post.er mu hD4 nD4 p3.bindN).imp (fun b M3 ρ3 H3 e4 rh4 ⟨hD5, nD5, p4⟩ b' hb => ?_) (fun _ _ _ _ _ _ q => q.elim)⟩
        subst hb
        have ra4 := ra3.mono e4
        have ex4 := ex3.trans (e4.er mu hD4 nD4).1
        cases b' with
        | false =>
          exact ⟨ρ3, M3, acc, ys, ex4, rh4, nD5, hD5, ra4, p4⟩
        | true =>
          have p4 : Post C ρ3 (er H3 D) (((e' env1 M3).bindN fun y M3 => if acc.length < SL then lcGo ni g c' e' (wipeE env vs) n (i + 1) (acc ++ [y]) M3 else .bad).bind fun l M2 => .ok (.ref M2.length) (M2 ++ [.lst l])) (fun d _ ρ' H' => ∀ v, RV C.K H' ρ' d v → Q v H') (fun x _ ρ' H' => ∀ cls dd, RX C H' ρ' x cls dd → W cls dd σ H') := p4
          rw [R.bindN_bind] at p4
          refine ⟨ρ3, M3, env1, rh4, re3.mono e4, (Post.er mu hD5 nD5 p4.bindN).imp (fun y M4 ρ4 H4 e5 rh5 ⟨hD6, nD6, p5⟩ w rw_ => ?_) (fun _ _ _ _ _ _ q => q.elim)⟩
          have ra5 := ra4.mono e5
          have ex5 := ex4.trans (e5.er mu hD5 nD5).1
          by_cases hl : acc.length < SL
          · rw [if_pos hl] at p5
            refine ⟨ys, hD6, by rw [ra5.len, sizeLine_eq]; exact hl, ρ4, M4, acc ++ [y], ys ++ [w], ?_, ?_, nD6, upd_same, ?_, ?_⟩
            · rw [er_upd]; exact ex5
            · have q := (rh5.er nD6 mu hD6).beside (o := .lst (ys ++ [w])) (er_self (H := H4) (D := D))
              rw [upd_er] at q
              exact q
            · have m : Mo C.K ρ4 ρ4 H4 (upd H4 D (.lst (ys ++ [w]))) := by
                have q1 : Mo C.K ρ4 ρ4 H4 (er H4 D) := ⟨List.prefix_refl _, fun a xs q => SqT.er mu hD6 q, fun a xs q => FzL.er mu hD6 q⟩
                have q2 := (Ext.new (C := C) (ρ := ρ4) (o := .lst (ys ++ [w])) (er_self (H := H4) (D := D))).toMo
                rw [upd_er] at q2
                exact ⟨List.prefix_refl _, fun a xs q => q2.tup a xs (q1.tup a xs q), fun a xs q => q2.fz a xs (q1.fz a xs q)⟩
              exact (ra5.snoc rw_).mo m
            · rw [er_upd]; exact p5
          · rw [if_neg hl] at p5
            exact p5.elim
theorem m_lc {elt tg iter : Expr} {ifs : List Expr} {scope : Scope} {own : List (Str × Nat)} {pos : Pos} {it : Fi} {g : Ftg} {c' : Ft} {e' : Fe} (hc : X.calm = true) (hN : X.N.Nodup) (hi : PI X tg iter (tIt C W it)) (ok : BlkOk X.N X.env.scope scope own)
    (hg : ∀ (s : Shared) (H : Hp) (C' : Addr) (cl : List (Str × Addr)) (fp : List Addr), PG (X.blk s H scope (compEnvC scope cl C' X.env) fp) tg (tGt C (own.map (·.2)) g)) (ht : ∀ (s : Shared) (H : Hp) (C' : Addr) (cl : List (Str × Addr)) (fp : List Addr), PTs (X.blk s H scope (compEnvC scope cl C' X.env) fp) ifs (tT C W0 c'))
    (he : ∀ (s : Shared) (H : Hp) (C' : Addr) (cl : List (Str × Addr)) (fp : List Addr), PE (X.blk s H scope (compEnvC scope cl C' X.env) fp) elt (tE C W0 e')) (hs : ∀ x, foldedSetIterable iter X.env x = pure x := by intro _; rfl) :
    PE X (.ListComp elt [⟨tg, iter, ifs, 0⟩] scope pos) (tE C W (eLc it g c' e' (own.map (·.2)))) :=
  PE.imp (pe_lc hc hN hi ok hg ht he hs) fun σ H Q h => lc_read h
theorem m_setLc {i : Nat} {y : Str} {py : Pos} {elt tg iter : Expr} {ifs : List Expr} {scope : Scope} {own : List (Str × Nat)} {pos spos : Pos} {it : Fi} {g : Ftg} {c' : Ft} {e' : Fe} (hc : X.calm = true) (hN : X.N.Nodup) (hyl : X.env.scope.names.lookup y = some .local)
    (hsw : swapsWith (.ListComp elt [⟨tg, iter, ifs, 0⟩] scope pos) (some (.Name y py)) spos.line X.env = pure true) (hi : PI X tg iter (tIt C W it)) (ok : BlkOk X.N X.env.scope scope own)
    (hg : ∀ (s : Shared) (H : Hp) (C' : Addr) (cl : List (Str × Addr)) (fp : List Addr), PG (X.blk s H scope (compEnvC scope cl C' X.env) fp) tg (tGt C (own.map (·.2)) g)) (ht : ∀ (s : Shared) (H : Hp) (C' : Addr) (cl : List (Str × Addr)) (fp : List Addr), PTs (X.blk s H scope (compEnvC scope cl C' X.env) fp) ifs (tT C W0 c'))
    (he : ∀ (s : Shared) (H : Hp) (C' : Addr) (cl : List (Str × Addr)) (fp : List Addr), PE (X.blk s H scope (compEnvC scope cl C' X.env) fp) elt (tE C W0 e')) (hs : ∀ x, foldedSetIterable iter X.env x = pure x := by intro _; rfl) (hy : X.N[i]? = some y := by rfl) :
    PS X (.Assign [.Name y py] (.ListComp elt [⟨tg, iter, ifs, 0⟩] scope pos) spos) (tS C W (sSet i (eLc it g c' e' (own.map (·.2))))) := by
  refine PS.imp (ps_setLc hc hN hy hyl hsw hi ok hg ht he hs) fun D σ H h => ?_
  obtain ⟨ρ, M, env, rh, re, p⟩ := h
  have p := (p.st re).imp (F' := fun d _ ρ' H' => ∀ v, RV C.K H' ρ' d v → D.nx (σ.set i (some v)) H') (fun d M1 ρ1 H1 e1 rh1 p2 v rv => p2.nx rh1 ((re.mono e1).set i rv)) (fun _ _ _ _ _ _ q => q)
  exact lc_read ⟨ρ, M, env, rh, re, p⟩
end
end Mi
set_option maxRecDepth 100000
/-! Defs, calls, raise, try. -/
namespace Mi
open PySem PySem.Spec PyProof.Rows L2
/-- a def's promise: it does what G says of it -/
def spF (C : Cfg) (G : Ga) (np f : Nat) : Sp := fun vs H Q E => vs.length = np ∧ ∃ ρ M ds, RH C ρ H M ∧ RVs C.K H ρ ds vs ∧
  Post C ρ H (G f ds M) (fun d _ ρ' H' => ∀ v, RV C.K H' ρ' d v → Q v H') (fun x _ ρ' H' => ∀ cls dd, RX C H' ρ' x cls dd → E cls dd H')
/-- what a caller has of the def f at fa -/
structure Call1 (C : Cfg) (P : Program) (w : World) (K : PySem.W.Frag) (mg : Str → Option Value) (base : Heap) (A : Around) (G : Ga) (f : Nat) (fa : Addr) : Prop where
  np : ∃ np, (∀ ds M, ds.length ≠ np → G f ds M = .bad) ∧ ∃ k fd ps, FnOk P w K mg base (L2.CX P w) k fa fd ps (spF C G np f) ∧ Room k A ∧ Binds K fd ps []
  kp : PySem.W.keepIn K (.ref fa) = true
section
variable {X : Cx} {C : Cfg} {W : WX}
theorem call_sp {G : Ga} {np f : Nat} {t' : Fa} (hl : ∀ ds M, ds.length ≠ np → G f ds M = .bad) {σ : L2.St} {H : Hp} {Q : VK} (h : tE C W (eCall G f t') σ H Q) : tCallS (spF C G np f) (WE W) (tA C W t') σ H Q := by
  obtain ⟨ρ, M, env, rh, re, p⟩ := h
  refine ⟨ρ, M, env, rh, re, p.bind.imp (fun ds M1 ρ1 H1 e1 rh1 p2 vs rvs => ?_) (fun _ _ _ _ _ _ q => q)⟩
  have hlen : ds.length = np := by
    by_cases h : ds.length = np
    · exact h
    · rw [hl ds M1 h] at p2
      exact p2.elim
  exact ⟨by rw [rvs.len]; exact hlen, ρ1, M1, ds, rh1, rvs, p2⟩
theorem m_call {G : Ga} {f : Nat} {fa : Addr} {x : Str} {p pos : Pos} {e : Expr} {es : List Expr} {t' : Fa} (c : Call1 C X.prog X.w X.K X.mg X.base X.A G f fa) (hm : X.mg x = some (.ref fa)) (tk : Takes X W) (ha : PA X (e :: es) (tA C W t')) (hg : Gl X x := by rfl)
    (hdb : (x == ("__debug__" : Str)) = false := by decide) (he : starEach (e :: es) X.env = (false, eval e X.env) :: starEach es X.env := by rfl) (hpl : (backTo pos (starEach es X.env)).any (·.1) = false := by rfl) :
    PE X (.Call (.Name x p) (e :: es) [] pos) (tE C W (eCall G f t')) := by
  obtain ⟨np, hl, k, fd, ps, F, hr, hb⟩ := c.np
  exact PE.imp (pe_callS F hr hg hm c.kp hb (fun σ => passAt tk σ) ha hdb he hpl) fun σ H Q h => call_sp hl h
theorem m_call0 {G : Ga} {f : Nat} {fa : Addr} {x : Str} {p pos : Pos} (c : Call1 C X.prog X.w X.K X.mg X.base X.A G f fa) (hm : X.mg x = some (.ref fa)) (tk : Takes X W) (hg : Gl X x := by rfl) (hdb : (x == ("__debug__" : Str)) = false := by decide) :
    PE X (.Call (.Name x p) [] [] pos) (tE C W (eCall G f aNil)) := by
  obtain ⟨np, hl, k, fd, ps, F, hr, hb⟩ := c.np
  refine ⟨fun pins s σ H Q I h => ?_⟩
  have h2 := call_sp hl h
  obtain ⟨ρ, M, env, rh, re, pp⟩ := h
  have h3 : spF C G np f [] H Q (WE W σ) := by
    have h4 : eCall G f aNil env M = G f [] M := rfl
    rw [h4] at pp
    have hlen : ([] : List MV).length = np := by
      by_cases h : ([] : List MV).length = np
      · exact h
      · rw [hl [] M h] at pp
        exact pp.elim
    exact ⟨hlen, ρ, M, [], rh, RVs.nil, pp⟩
  refine wpAny_Call_Name_kw (ld_glob I hg hm ?_ hdb)
  exact PySem.W.callWith_K0 I.kIn c.kp (run_fnS (us := []) (E := WE W) F hr hb (passAt tk σ) I .nil h3)
end

/-- the wish of a def's body -/
abbrev WB (E : XK) : WX := fun cls d _ H => E cls d H
abbrev Bx (P : Program) (w : World) (K : PySem.W.Frag) (mg : Str → Option Value) (base : Heap) (N : List Str) (qual : Str) (sc : Scope) (f : Addr) (cdv : Value) (A : Around) (outer : List PySem.Env) (s : Shared) (H : Hp) (E : XK) : Cx :=
  cxOf (L2.CX P w) P w K mg base N qual sc f cdv A outer s H E
section
variable {P : Program} {w : World} {K : PySem.W.Frag} {mg : Str → Option Value} {base : Heap} {C : Cfg}
theorem start_re {ρ : List Addr} {H : Hp} {ds : List MV} {vs : List V} {N : List Str} (r : RVs C.K H ρ ds vs) (hl : ds.length ≤ N.length) : RE C.K H ρ (ds.map some ++ List.replicate (N.length - ds.length) none) (L2.start N vs) := by
  have e := r.len
  refine ⟨?_, fun i d h => ?_⟩
  · unfold L2.start
    simp only [List.length_append, List.length_map, List.length_replicate]
    omega
  · by_cases hi : i < ds.length
    · rw [List.getElem?_append_left (by simpa using hi), List.getElem?_map] at h
      cases q : ds[i]? with
      | none => rw [q] at h; cases h
      | some d' =>
        rw [q] at h
        cases h
        obtain ⟨v, hv, rv⟩ := r.get q
        refine ⟨v, ?_, rv⟩
        unfold L2.start
        rw [List.getElem?_append_left (by simpa [e] using hi), List.getElem?_map, hv]
        rfl
    · rw [List.getElem?_append_right (by simpa using Nat.le_of_not_lt hi), List.getElem?_replicate] at h
      split at h <;> cases h
theorem res_post {Q : VK} {E : XK} {ρ : List Addr} {H : Hp} {r : RS} (p : Post C ρ H r.res (fun d _ ρ' H' => ∀ v, RV C.K H' ρ' d v → Q v H') (fun x _ ρ' H' => ∀ cls dd, RX C H' ρ' x cls dd → E cls dd H')) :
    PostS C ρ H r { nx := fun _ H' => Q .non H', rt := Q } (WB E) := by
  cases r with
  | ok o env M =>
    cases o with
    | nx =>
      have p' : Post C ρ H (.ok .non M) (fun d _ ρ' H' => ∀ v, RV C.K H' ρ' d v → Q v H') (fun x _ ρ' H' => ∀ cls dd, RX C H' ρ' x cls dd → E cls dd H') := p
      exact fun ρ' H' σ' e rh _ => p' ρ' H' e rh .non (by unfold RV; rfl)
    | ret d =>
      have p' : Post C ρ H (.ok d M) (fun d _ ρ' H' => ∀ v, RV C.K H' ρ' d v → Q v H') (fun x _ ρ' H' => ∀ cls dd, RX C H' ρ' x cls dd → E cls dd H') := p
      exact fun ρ' H' v e rh rv => p' ρ' H' e rh v rv
    | brk => exact p.elim
    | cnt => exact p.elim
  | exc x env M =>
    have p' : Post C ρ H (.exc x M) (fun d _ ρ' H' => ∀ v, RV C.K H' ρ' d v → Q v H') (fun x _ ρ' H' => ∀ cls dd, RX C H' ρ' x cls dd → E cls dd H') := p
    exact fun ρ' H' σ' cls dd e rh _ rx => p' ρ' H' e rh cls dd rx
  | bad => exact p.elim
/-- a def of the text by its body, a call deeper -/
theorem fn_mi {x qual : Str} {st : Stmt} {fa : Addr} {fd : FuncData} {N ps : List Str} {k f : Nat} {G G' : Ga} {d : Df} (F : Fun K x qual st fa fd) (S : FnScope N ps (defScope st)) (hd : d.np = ps.length ∧ d.ns = N.length)
    (hG : ∀ ds M, G' f ds M = callD d G ds M)
    (hbody : ∀ (cdv : Value) (A : Around) (outer : List PySem.Env) (s : Shared) (H : Hp) (E : XK), Room k (A.deeper (envOfC qual (defScope st) s.heap.objs.size fa cdv)) →
      PSs (Bx P w K mg base N qual (defScope st) fa cdv A outer s H E) (defBody st) (tS C (WB E) (d.bd G))) : FnOk P w K mg base (L2.CX P w) (k + 1) fa fd ps (spF C G' ps.length f) := by
  refine F.okX S (fun vs H Q E h => h.1) (fun cdv A outer s H vs Q E hr h => ⟨tS C (WB E) (d.bd G), hbody cdv A outer s H E hr, ?_⟩)
  obtain ⟨hl, ρ, M, ds, rh, rvs, p⟩ := h
  have hN : ps.length ≤ N.length := by have := congrArg List.length S.pre; rw [List.length_take] at this; omega
  have hds : ds.length = ps.length := by rw [← rvs.len]; exact hl
  rw [hG] at p
  unfold callD at p
  rw [if_pos (by rw [hds]; exact hd.1.symm), hd.1, hd.2] at p
  refine ⟨ρ, M, _, rh, ?_, res_post p⟩
  have q := start_re (N := N) rvs (by rw [hds]; exact hN)
  rw [hds] at q
  exact q
end

/-! ### raise C('..') -/
def sRaiseC (c : Nat) : Fs := fun env M => .exc ⟨c, none⟩ env M
/-- what an own exception class without own __init__ must have -/
structure ExC (K : PySem.W.Frag) (cA : Addr) : Prop where
  ex : PySem.W.excIn K cA [.type "ValueError", .type "Exception", .type "BaseException", .type "object"] "ValueError.__new__" = true
  kp : PySem.W.keepIn K (.ref cA) = true
  sb : PySem.W.subIn K (.ref cA) (.type "BaseException") = some true
  ty : PySem.W.typeIn K (.ref cA) = some (.type "type")
section
variable {X : Cx} {C : Cfg} {W : WX}
theorem m_raise {c : Nat} {x m : Str} {j : Nat} {p p2 pos pos2 : Pos} (hc : X.calm = true) (tk : Takes X W) (E : ExC X.K (C.cA c)) (hm : X.mg x = some (.ref (C.cA c))) (hg : Gl X x := by rfl) (hdb : (x == ("__debug__" : Str)) = false := by decide) :
    PS X (.Raise (some (.Call (.Name x p) [.Constant (.str m) j p2] [] pos)) none pos2) (tS C W (sRaiseC c)) := by
  refine PS.imp (ps_raise hc tk (pmk_own PySem.F.excBase_ValueError E.ex hm E.kp (raises_own E.sb E.ty) hg hdb)) fun D σ H h => ?_
  obtain ⟨ρ, M, env, rh, re, p⟩ := h
  exact p ρ H σ _ none Ext.refl rh re ⟨rfl, trivial⟩

/-! ### try .. except C as n: suite -/
/-- sub: which classes the clause names -/
def sTryAs (b : Fs) (sub : Nat → Option Bool) (i : Nat) (su : MX → Fs) : Fs := fun env M => match b env M with
  | .exc x env1 M1 => (match sub x.cls with
    | some true => if i < env1.length then (match su x (env1.set i none) M1 with
      | .ok o env2 M2 => .ok o (env2.set i none) M2
      | _ => .bad) else .bad
    | some false => .exc x env1 M1
    | none => .bad)
  | r => r
/-- what a suite does, the exception in slot i -/
def tSu (C : Cfg) (i : Nat) (su : MX → Fs) (a : Addr) (cls : Value) (d : Option Addr) : TS := fun D σ H => ∃ x ρ M env, RX C H ρ x cls d ∧ H a = none ∧ RH C ρ H M ∧ RE C.K H ρ env σ ∧ σ[i]? = some (some (.ref a)) ∧
  PostS C ρ H (su x env M) D W0
theorem PostS.setNone {ρ : List Addr} {H : Hp} {i : Nat} {r : RS} {D : Ends} (p : PostS C ρ H (match r with
      | .ok o env2 M2 => .ok o (env2.set i none) M2
      | _ => .bad) D W) : PostS C ρ H r { nx := fun σ' H' => D.nx (σ'.set i none) H', rt := D.rt, bk := fun σ' H' => D.bk (σ'.set i none) H', ct := fun σ' H' => D.ct (σ'.set i none) H' } W0 := by
  cases r with
  | ok o env M =>
    cases o with
    | nx => exact fun ρ' H' σ' e rh re => p ρ' H' _ e rh (re.none i Option.none)
    | brk => exact fun ρ' H' σ' e rh re => p ρ' H' _ e rh (re.none i Option.none)
    | cnt => exact fun ρ' H' σ' e rh re => p ρ' H' _ e rh (re.none i Option.none)
    | ret d => exact p
  | exc x env M => exact p.elim
  | bad => exact p.elim
theorem m_try_as {i : Nat} {x n : Str} {c : Addr} {sub : Nat → Option Bool} {body suite : List Stmt} {b₀ : Stmt} {b' : Fs} {su : MX → Fs} {np pos pos' : Pos} (hK : C.K = X.K) (hN : X.N.Nodup) (tk : Takes X W) (hm : X.mg x = some (.ref c))
    (hsub : ∀ j b, sub j = some b → PySem.W.exmOne X.K (.ref (C.cA j)) (.ref c) = some b)
    (hb : ∀ (W' : WX) (pn : List (Addr × Obj)) (xe : Value → Shared → Prop), Takes (X.tr pn xe) W' → PassesOwn (model X.prog X.w) X.A X.env xe → PSs (X.tr pn xe) body (tS C W' b'))
    (hsu : ∀ (a : Addr) (oe : Obj) (cls : Value) (d : Option Addr) (pn : List (Addr × Obj)), Zc cls d oe → (∃ vs, oe.data = .fields vs) → PSs (X.suite a ((a, oe) :: pn)) (b₀ :: suite) (tSu C i su a cls d))
    (hs : X.stack = X.env :: X.outer := by rfl) (hf : X.env.frame = some X.env.locals := by rfl) (hi : X.N[i]? = some n := by rfl) (hln : X.env.kindOf n = some .local := by rfl) (hg : Gl X x := by rfl) (hdb : (x == ("__debug__" : Str)) = false := by decide) :
    PS X (.Try body [.ExceptHandler (some (.Name x np)) (some n) (b₀ :: suite) pos'] [] [] pos) (tS C W (sTryAs b' sub i su)) := by
  refine PS.imp (ps_try_as (i := i) (tb := fun W' => tS C W' b') (ts := tSu C i su) (Wout := W) hs hf hN hi hln ⟨hg, hdb, .inl hm⟩ tk hb hsu) fun D σ H h => ?_
  obtain ⟨ρ, M, env, rh, re, p⟩ := h
  have hiN : i < X.N.length := (List.getElem?_eq_some_iff.mp hi).1
  refine ⟨ρ, M, env, rh, re, ?_⟩
  unfold sTryAs at p
  cases e : b' env M with
  | bad => rw [e] at p; exact p
  | ok o env1 M1 => rw [e] at p; cases o <;> exact p
  | exc x env1 M1 =>
    rw [e] at p
    have p : PostS C ρ H (match sub x.cls with
      | some true => if i < env1.length then (match su x (env1.set i none) M1 with
        | .ok o env2 M2 => .ok o (env2.set i none) M2
        | _ => .bad) else .bad
      | some false => .exc x env1 M1
      | none => .bad) D W := p
    intro ρ' H' σ' cls dd ex rh' re' rx
    cases hs2 : sub x.cls with
    | none => rw [hs2] at p; exact p.elim
    | some b =>
      rw [hs2] at p
      refine ⟨b, by rw [rx.1]; exact hsub _ _ hs2, fun hb a ha => ?_, fun hb => ?_⟩
      · subst hb
        have p : PostS C ρ H (if i < env1.length then (match su x (env1.set i none) M1 with
          | .ok o env2 M2 => .ok o (env2.set i none) M2
          | _ => .bad) else .bad) D W := p
        by_cases hl : i < env1.length
        · rw [if_pos hl] at p
          exact ⟨x, ρ', M1, env1.set i none, rx, ha, rh', re'.none i _, List.getElem?_set_self (by rw [re'.len]; exact hl), PostS.setNone (p.ext ex)⟩
        · rw [if_neg hl] at p
          exact p.elim
      · subst hb
        have p : PostS C ρ H (.exc x env1 M1) D W := p
        exact p ρ' H' σ' cls dd ex rh' re' rx
/-- return isinstance(e, Z) -/
def suIs (isI : Nat → Option Bool) : MX → Fs := fun x env M => match isI x.cls with
  | some b => if x.fs.isNone then .ok (.ret (.bl b)) env M else .bad
  | none => .bad
theorem msu_is {i : Nat} {n z : Str} {ca : Addr} {isI : Nat → Option Bool} {p0 p1 p2 p3 p4 : Pos} (hz : X.mg z = some (.ref ca)) (hmi : X.mg "isinstance" = none)
    (hI : ∀ j b, isI j = some b → ExcC X.K (C.cA j) ∧ PySem.W.kitOne X.K (.ref (C.cA j)) (.ref ca) = some b)
    {a : Addr} {oe : Obj} {cls : Value} {d : Option Addr} {pn : List (Addr × Obj)} (hzc : Zc cls d oe) (hf : ∃ vs, oe.data = .fields vs)
    (hi : X.N[i]? = some n := by rfl) (hv : Vis X.env.scope n := by first | exact Or.inl rfl | exact Or.inr (Or.inl rfl)) (hg : Gl X z := by rfl) (hgi : Gl X "isinstance" := by rfl) (hd1 : (n == ("__debug__" : Str)) = false := by decide) (hd2 : (n == ("__classdict__" : Str)) = false := by decide) (hd3 : (z == ("__debug__" : Str)) = false := by decide) :
    PSs (X.suite a ((a, oe) :: pn)) [.Return (some (.Call (.Name "isinstance" p0) [.Name n p1, .Name z p2] [] p3)) p4] (tSu C i (suIs isI) a cls d) := by
  refine ⟨fun pins s σ H D I h => ?_⟩
  obtain ⟨x, ρ, M, env, rx, ha, rh, re, hσ, p⟩ := h
  unfold suIs at p
  cases hj : isI x.cls with
  | none => simp only [hj] at p; exact p.elim
  | some b =>
    simp only [hj] at p
    obtain ⟨E1, E2⟩ := hI _ _ hj
    cases hx : x.fs with
    | some fs => rw [hx] at p; exact p.elim
    | none =>
      rw [hx] at p
      have p : PostS C ρ H (.ok (.ret (.bl b)) env M) D W0 := p
      obtain ⟨rc, rd⟩ := rx
      have hd : d = none := by
        cases d with
        | none => rfl
        | some a' => rw [hx] at rd; exact rd.elim
      subst hd
      subst rc
      have pe : PSs (X.suite a ((a, oe) :: pn)) [.Return (some (.Call (.Name "isinstance" p0) [.Name n p1, .Name z p2] [] p3)) p4] _ :=
        pss_one (ps_ret (pe_callB (X := X.suite a ((a, oe) :: pn)) (call_isE (X := X) (a := a) E1 hzc hf) hgi hmi (by decide +kernel) (pa_cons (pe_var (i := i) hi hv hd1 hd2) (pa_cons (pe_glob (v := .ref ca) hg hz rfl hd3) pa_nil))))
      refine pe.run pins s σ H D I ?_
      exact ⟨.ref a, hσ, .ref ca, .ref ca, b, rfl, fun u hu => hu, E2, p.ret rh (by unfold RV; rfl)⟩
end
end Mi
set_option maxRecDepth 100000
/-! Operations on values. -/
namespace Mi
open PySem PySem.Spec PyProof.Rows L2
section
variable {K : PySem.W.Frag} {H : Hp} {ρ : List Addr} {v : V}
theorem rv_non : RV K H ρ .non v ↔ v = .non := by unfold RV; exact Iff.rfl
theorem rv_bl {b : Bool} : RV K H ρ (.bl b) v ↔ v = .bl b := by unfold RV; exact Iff.rfl
theorem rv_int {i : Int} : RV K H ρ (.int i) v ↔ v = .int i := by unfold RV; exact Iff.rfl
theorem rv_str {s : Tx} : RV K H ρ (.str s) v ↔ v = .str (T s) := by unfold RV; exact Iff.rfl
theorem rv_tup {l : List MV} : RV K H ρ (.tup l) v ↔ ∃ a xs, v = .ref a ∧ SqT K H a xs ∧ RVs K H ρ l xs := by
  constructor
  · intro h; unfold RV at h; exact h
  · intro h; unfold RV; exact h
theorem rv_ref {i : Nat} : RV K H ρ (.ref i) v ↔ ∃ a, ρ[i]? = some a ∧ v = .ref a := by unfold RV; exact Iff.rfl
theorem rv_rol {l : List MV} : RV K H ρ (.rol l) v ↔ ∃ a xs, v = .ref a ∧ FzL K H a xs ∧ RVs K H ρ l xs := by
  constructor
  · intro h; unfold RV at h; exact h
  · intro h; unfold RV; exact h
theorem rvs_nil {vs : List V} : RVs K H ρ [] vs ↔ vs = [] := by unfold RVs; exact Iff.rfl
theorem rvs_cons {d : MV} {ds : List MV} {vs : List V} : RVs K H ρ (d :: ds) vs ↔ ∃ v r, vs = v :: r ∧ RV K H ρ d v ∧ RVs K H ρ ds r := by
  constructor
  · intro h; unfold RVs at h; exact h
  · intro h; unfold RVs; exact h
end
section
variable {C : Cfg} {ρ : List Addr} {H : Hp} {M : Hm} {Q : VK} {G : MX → Hm → List Addr → Hp → Prop}
/-- what follows a value: F of Post -/
abbrev Fv (C : Cfg) (Q : VK) : MV → Hm → List Addr → Hp → Prop := fun z _ ρ' H' => ∀ v, RV C.K H' ρ' z v → Q v H'
theorem Post.val {d : MV} {v : V} (p : Post C ρ H (.ok d M) (Fv C Q) G) (h : RH C ρ H M) (r : RV C.K H ρ d v) : Q v H := p.now h v r
theorem Post.newL {l : List MV} {xs : List V} (p : Post C ρ H (.ok (.ref M.length) (M ++ [.lst l])) (Fv C Q) G) (h : RH C ρ H M) (r : RVs C.K H ρ l xs) {a : Addr} (ha : H a = none) : Q (.ref a) (upd H a (.lst xs)) := by
  have e : Ext C.K ρ (ρ ++ [a]) H (upd H a (.lst xs)) := Ext.new1 (C := C) ha
  refine p _ _ e (h.push ha ⟨xs, upd_same, r.mono e⟩) (.ref a) (rv_ref.mpr ⟨a, ?_, rfl⟩)
  rw [← h.len, List.getElem?_append_right (Nat.le_refl _), Nat.sub_self]
  rfl
theorem Post.newT {l : List MV} {xs : List V} (p : Post C ρ H (.ok (.tup l) M) (Fv C Q) G) (h : RH C ρ H M) (r : RVs C.K H ρ l xs) {a : Addr} (ha : H a = none) : Q (.ref a) (upd H a (.tup xs)) := by
  have e : Ext C.K ρ ρ H (upd H a (.tup xs)) := Ext.new (C := C) ha
  exact p _ _ e (h.beside ha) (.ref a) (rv_tup.mpr ⟨a, xs, rfl, SqT.of upd_same, r.mono e⟩)
theorem Post.setL {d : MV} {v : V} {i : Nat} {a : Addr} {l : List MV} {xs : List V} (p : Post C ρ H (.ok d (M.set i (.lst l))) (Fv C Q) G) (h : RH C ρ H M) (ha : ρ[i]? = some a) (r : RVs C.K H ρ l xs) (rd : RV C.K H ρ d v) : Q v (upd H a (.lst xs)) := by
  obtain ⟨o, hm, ro⟩ := h.there ha
  obtain ⟨u, hu, mu⟩ := ro.mut
  have e : Ext C.K ρ ρ H (upd H a (.lst xs)) := Ext.wr (C := C) hu mu (List.mem_of_getElem? ha)
  exact p _ _ e (h.set ha ⟨xs, upd_same, r.mono e⟩) v (rd.mono e)
end

/-! ### + - * // % ** -/
def fAdd : MV → MV → Hm → R MV
  | .int i, .int j, M => .ok (.int (i + j)) M
  | .str s, .str t, M => if s.length + t.length ≤ SL then .ok (.str (s ++ t)) M else .bad
  | .tup s, .tup t, M => if s.length + t.length ≤ SL then .ok (.tup (s ++ t)) M else .bad
  | .ref i, .ref j, M => match M[i]?, M[j]? with
    | some (.lst s), some (.lst t) => if s.length + t.length ≤ SL then .ok (.ref M.length) (M ++ [.lst (s ++ t)]) else .bad
    | _, _ => .bad
  | _, _, _ => .bad
def rAddM (K : PySem.W.Frag) : R2 := fun x y H Q => (∃ i j, x = .int i ∧ y = .int j ∧ Q (.int (i + j)) H) ∨ (∃ i j, x = .str i ∧ y = .str j ∧ i.length + j.length ≤ sizeLine ∧ Q (.str (i ++ j)) H) ∨ rCatA K x y H Q ∨ rCat x y H Q
theorem op_addM {X : Cx} : OpR X (binaryOp .Add) (rAddM X.K) := op_add.or (op_add_str.or (op_catA.or op_cat))
theorem sim_add {C : Cfg} : Sim2 C fAdd (rAddM C.K) := by
  intro ρ H M d e x y Q G rh rx ry p
  unfold fAdd at p
  split at p
  · rw [rv_int] at rx ry; subst rx; subst ry
    exact .inl ⟨_, _, rfl, rfl, p.val rh (rv_int.mpr rfl)⟩
  · rw [rv_str] at rx ry; subst rx; subst ry
    split at p
    · rename_i s t hl
      refine .inr (.inl ⟨_, _, rfl, rfl, by rw [T_len, T_len, sizeLine_eq]; exact hl, ?_⟩)
      rw [T_app]
      exact p.val rh (rv_str.mpr rfl)
    · exact p.elim
  · rename_i s t
    rw [rv_tup] at rx ry
    obtain ⟨a, xs, rfl, h1, h2⟩ := rx
    obtain ⟨b, ys, rfl, h3, h4⟩ := ry
    split at p
    · rename_i hl
      refine .inr (.inr (.inl ⟨a, b, xs, ys, rfl, rfl, h1, h3, by rw [h2.len, h4.len, sizeLine_eq]; exact hl, fun e => ?_, fun e1 e2 => ?_, fun e1 e2 q hq => ?_⟩))
      · subst e
        have : s = [] := by cases s with | nil => rfl | cons _ _ => have := h2.len; simp at this
        subst this
        exact p.val rh (rv_tup.mpr ⟨b, ys, rfl, h3, h4⟩)
      · subst e2
        have : t = [] := by cases t with | nil => rfl | cons _ _ => have := h4.len; simp at this
        subst this
        rw [List.append_nil] at p
        exact p.val rh (rv_tup.mpr ⟨a, xs, rfl, h1, h2⟩)
      · exact p.newT rh (h2.app h4) hq
    · exact p.elim
  · rename_i i j
    rw [rv_ref] at rx ry
    obtain ⟨a, ha, rfl⟩ := rx
    obtain ⟨b, hb, rfl⟩ := ry
    split at p
    · rename_i s t h1 h2
      obtain ⟨xs, q1, q2⟩ := rh.at h1 ha
      obtain ⟨ys, q3, q4⟩ := rh.at h2 hb
      split at p
      · rename_i hl
        exact .inr (.inr (.inr ⟨a, b, xs, ys, rfl, rfl, q1, q3, by rw [q2.len, q4.len, sizeLine_eq]; exact hl, fun q hq => p.newL rh (q2.app q4) hq⟩))
      · exact p.elim
    · exact p.elim
  · exact p.elim
def fInt2 (g : Int → Int → Int) : MV → MV → Hm → R MV
  | .int i, .int j, M => .ok (.int (g i j)) M
  | _, _, _ => .bad
def fInt2C (c : Int → Int → Bool) (g : Int → Int → Int) : MV → MV → Hm → R MV
  | .int i, .int j, M => if c i j then .ok (.int (g i j)) M else .bad
  | _, _, _ => .bad
theorem sim_int2 {C : Cfg} {g : Int → Int → Int} : Sim2 C (fInt2 g) (rI0 fun i j => .int (g i j)) := by
  intro ρ H M d e x y Q G rh rx ry p
  unfold fInt2 at p
  split at p
  · rw [rv_int] at rx ry; subst rx; subst ry
    exact ⟨_, _, rfl, rfl, p.val rh (rv_int.mpr rfl)⟩
  · exact p.elim
theorem sim_int2C {C : Cfg} {c : Int → Int → Bool} {Cc : Int → Int → Prop} {g : Int → Int → Int} (hc : ∀ i j, c i j = true → Cc i j) : Sim2 C (fInt2C c g) (rI Cc fun i j => .int (g i j)) := by
  intro ρ H M d e x y Q G rh rx ry p
  unfold fInt2C at p
  split at p
  · rw [rv_int] at rx ry; subst rx; subst ry
    split at p
    · rename_i i j h
      exact ⟨_, _, rfl, rfl, hc _ _ h, p.val rh (rv_int.mpr rfl)⟩
    · exact p.elim
  · exact p.elim
abbrev fSub := fInt2 fun i j => i - j
/-- factors of together less than a million bits, or one of them below 2^64 -/
def cMul (i j : Int) : Bool := decide (i.natAbs.log2 + j.natAbs.log2 < 1000000) || decide (i.natAbs < 18446744073709551616) || decide (j.natAbs < 18446744073709551616)
def fMul : MV → MV → Hm → R MV := fInt2C cMul fun i j => i * j
def rMulM : R2 := fun x y H Q => rI CMulW (fun i j => .int (i * j)) x y H Q ∨ rI CMul (fun i j => .int (i * j)) x y H Q
theorem op_mulM {X : Cx} : OpR X (binaryOp .Mult) rMulM := fun pins s σ H x y v u Q I rx ry h => by
  rcases h with h | h
  · exact op_mulW pins s σ H x y v u Q I rx ry h
  · exact op_mul pins s σ H x y v u Q I rx ry h
theorem sim_mul {C : Cfg} : Sim2 C fMul rMulM := fun ρ H M d e x y Q G rh rx ry p => by
  by_cases hw : ∃ i j : Int, d = .int i ∧ e = .int j ∧ i.natAbs.log2 + j.natAbs.log2 < 1000000
  · obtain ⟨i, j, rfl, rfl, hw⟩ := hw
    rw [rv_int] at rx ry; subst rx; subst ry
    have : cMul i j = true := by
      unfold cMul
      rw [decide_eq_true hw]
      rfl
    unfold fMul fInt2C at p
    simp only [this, if_true] at p
    exact .inl ⟨_, _, rfl, rfl, hw, p.val rh (rv_int.mpr rfl)⟩
  · unfold fMul fInt2C at p
    split at p
    · rw [rv_int] at rx ry; subst rx; subst ry
      split at p
      · rename_i i j h
        unfold cMul at h
        simp only [Bool.or_eq_true, decide_eq_true_eq] at h
        refine .inr ⟨_, _, rfl, rfl, ?_, p.val rh (rv_int.mpr rfl)⟩
        rcases h with (h | h) | h
        · exact absurd ⟨i, j, rfl, rfl, h⟩ hw
        · exact .inl ⟨by omega, by omega⟩
        · exact .inr ⟨by omega, by omega⟩
      · exact p.elim
    · exact p.elim
def cDiv (_ j : Int) : Bool := decide (0 < j) && decide (j.natAbs.log2 < 9000)
def fDiv : MV → MV → Hm → R MV := fInt2C cDiv fun i j => i / j
theorem sim_div {C : Cfg} : Sim2 C fDiv (rI CDivW fun i j => .int (i / j)) := sim_int2C fun i j h => by
  unfold cDiv at h
  rw [Bool.and_eq_true, decide_eq_true_eq, decide_eq_true_eq] at h
  exact h
def cMod (_ j : Int) : Bool := decide (0 < j)
def fMod : MV → MV → Hm → R MV := fInt2C cMod fun i j => i % j
theorem sim_mod {C : Cfg} : Sim2 C fMod (rI (fun _ j => 0 < j) fun i j => .int (i % j)) := sim_int2C fun i j h => of_decide_eq_true h
def cPow (i j : Int) : Bool := decide (0 ≤ j) && decide (j ≤ 1000) && decide (i.natAbs < 1000)
def fPow : MV → MV → Hm → R MV := fInt2C cPow fun i j => i ^ j.toNat
theorem sim_pow {C : Cfg} : Sim2 C fPow (rI CPow fun i j => .int (i ^ j.toNat)) := sim_int2C fun i j h => by
  unfold cPow at h
  simp only [Bool.and_eq_true, decide_eq_true_eq] at h
  exact ⟨h.1.1, by omega, by omega⟩
def fNeg : MV → Hm → R MV
  | .int i, M => .ok (.int (-i)) M
  | _, _ => .bad
theorem sim_neg {C : Cfg} : Sim1 C fNeg (rU fun i => .int (-i)) := by
  intro ρ H M d x Q G rh rx p
  unfold fNeg at p
  split at p
  · rw [rv_int] at rx; subst rx
    exact ⟨_, rfl, p.val rh (rv_int.mpr rfl)⟩
  · exact p.elim

/-! ### comparisons -/
def txLt (a b : Tx) : Bool := decide (a < b)
def fCmp (g : Int → Int → Bool) (h : Tx → Tx → Bool) : MV → MV → Hm → R MV
  | .int i, .int j, M => .ok (.bl (g i j)) M
  | .str s, .str t, M => .ok (.bl (h s t)) M
  | _, _, _ => .bad
def rCmp (g : Int → Int → Bool) (h : Str → Str → Bool) : R2 := fun x y H Q => (∃ i j, x = .int i ∧ y = .int j ∧ Q (.bl (g i j)) H) ∨ ∃ i j, x = .str i ∧ y = .str j ∧ Q (.bl (h i j)) H
theorem sim_cmp {C : Cfg} {g : Int → Int → Bool} {h : Tx → Tx → Bool} {h' : Str → Str → Bool} (hh : ∀ a b, h' (T a) (T b) = h a b) : Sim2 C (fCmp g h) (rCmp g h') := by
  intro ρ H M d e x y Q G rh rx ry p
  unfold fCmp at p
  split at p
  · rw [rv_int] at rx ry; subst rx; subst ry
    exact .inl ⟨_, _, rfl, rfl, p.val rh (rv_bl.mpr rfl)⟩
  · rw [rv_str] at rx ry; subst rx; subst ry
    refine .inr ⟨_, _, rfl, rfl, ?_⟩
    rw [hh]
    exact p.val rh (rv_bl.mpr rfl)
  · exact p.elim
def fLt := fCmp (fun i j => decide (i < j)) fun a b => decide (a < b)
def fLe := fCmp (fun i j => decide (i ≤ j)) fun a b => !decide (b < a)
def fGt := fCmp (fun i j => decide (j < i)) fun a b => decide (b < a)
def fGe := fCmp (fun i j => decide (j ≤ i)) fun a b => !decide (a < b)
section
variable {X : Cx} {C : Cfg}
theorem op_ltM : OpR X (compareOp .Lt) (rCmp (fun i j => decide (i < j)) fun a b => decide (a.cps.toList < b.cps.toList)) := op_lt.or op_lt_str
theorem op_leM : OpR X (compareOp .LtE) (rCmp (fun i j => decide (i ≤ j)) fun a b => !decide (b.cps.toList < a.cps.toList)) := op_le.or op_le_str
theorem op_gtM : OpR X (compareOp .Gt) (rCmp (fun i j => decide (j < i)) fun a b => decide (b.cps.toList < a.cps.toList)) := op_gt.or op_gt_str
theorem op_geM : OpR X (compareOp .GtE) (rCmp (fun i j => decide (j ≤ i)) fun a b => !decide (a.cps.toList < b.cps.toList)) := op_ge.or op_ge_str
theorem sim_lt : Sim2 C fLt (rCmp (fun i j => decide (i < j)) fun a b => decide (a.cps.toList < b.cps.toList)) := sim_cmp fun a b => by rw [T_list, T_list]
theorem sim_le : Sim2 C fLe (rCmp (fun i j => decide (i ≤ j)) fun a b => !decide (b.cps.toList < a.cps.toList)) := sim_cmp fun a b => by rw [T_list, T_list]
theorem sim_gt : Sim2 C fGt (rCmp (fun i j => decide (j < i)) fun a b => decide (b.cps.toList < a.cps.toList)) := sim_cmp fun a b => by rw [T_list, T_list]
theorem sim_ge : Sim2 C fGe (rCmp (fun i j => decide (j ≤ i)) fun a b => !decide (a.cps.toList < b.cps.toList)) := sim_cmp fun a b => by rw [T_list, T_list]
end
/-- a value as data -/
def pyD : Nat → Hm → MV → Option PyData
  | 0, _, _ => none
  | n + 1, M, d => match d with
    | .non => some .none
    | .bl b => some (.bool b)
    | .int i => some (.int i)
    | .str s => some (.str (T s))
    | .tup l => (l.mapM (pyD n M)).map .tuple
    | .rol l => (l.mapM (pyD n M)).map .list
    | .ref i => match M[i]? with
      | some (.lst l) => (l.mapM (pyD n M)).map .list
      | _ => none
theorem dp_of {C : Cfg} {ρ : List Addr} {H : Hp} {M : Hm} (rh : RH C ρ H M) : ∀ (n : Nat) (d : MV) (v : V) (x : PyData), RV C.K H ρ d v → pyD n M d = some x → Dp C.K H v x := by
  intro n
  induction n with
  | zero => intro d v x _ e; cases e
  | succ n ih =>
    have all : ∀ (l : List MV) (vs : List V) (xs : List PyData), RVs C.K H ρ l vs → l.mapM (pyD n M) = some xs → DpAll C.K H vs xs := by
      intro l
      induction l with
      | nil =>
        intro vs xs r e
        rw [rvs_nil] at r
        subst r
        rw [List.mapM_nil] at e
        cases e
        exact .nil
      | cons d l ihl =>
        intro vs xs r e
        rw [rvs_cons] at r
        obtain ⟨v, r', rfl, r1, r2⟩ := r
        rw [List.mapM_cons] at e
        cases h1 : pyD n M d with
        | none => rw [h1] at e; cases e
        | some x =>
          cases h2 : l.mapM (pyD n M) with
          | none => rw [h1, h2] at e; cases e
          | some xs' =>
            rw [h1, h2] at e
            cases e
            exact .cons (ih d v x r1 h1) (ihl r' xs' r2 h2)
    intro d v x r e
    cases d with
    | non => rw [rv_non] at r; subst r; cases e; exact .non
    | bl b => rw [rv_bl] at r; subst r; cases e; exact .bl b
    | int i => rw [rv_int] at r; subst r; cases e; exact .int i
    | str s => rw [rv_str] at r; subst r; cases e; exact .str _
    | tup l =>
      rw [rv_tup] at r
      obtain ⟨a, xs, rfl, h1, h2⟩ := r
      have e : (l.mapM (pyD n M)).map PyData.tuple = some x := e
      cases h : l.mapM (pyD n M) with
      | none => rw [h] at e; cases e
      | some ys => rw [h] at e; cases e; exact .tup h1 (all l xs ys h2 h)
    | rol l =>
      rw [rv_rol] at r
      obtain ⟨a, xs, rfl, h1, h2⟩ := r
      have e : (l.mapM (pyD n M)).map PyData.list = some x := e
      cases h : l.mapM (pyD n M) with
      | none => rw [h] at e; cases e
      | some ys => rw [h] at e; cases e; exact .lst h1.sq (all l xs ys h2 h)
    | ref i =>
      rw [rv_ref] at r
      obtain ⟨a, ha, rfl⟩ := r
      cases hm : M[i]? with
      | none => simp only [pyD, hm] at e; cases e
      | some o =>
        cases o with
        | lst l =>
          simp only [pyD, hm] at e
          obtain ⟨xs, q1, q2⟩ := rh.at hm ha
          cases h : l.mapM (pyD n M) with
          | none => rw [h] at e; cases e
          | some ys => rw [h] at e; cases e; exact .lst (SqL.of q1) (all l xs ys q2 h)
        | dic l => simp only [pyD, hm] at e; cases e
        | ins c fs => simp only [pyD, hm] at e; cases e
def eqD (M : Hm) (d e : MV) : Option Bool := match pyD 60 M d, pyD 60 M e with
  | some x, some y => if SeqAt.shaped x && SeqAt.shaped y then some (PyData.eqv x y) else none
  | _, _ => none
/-- == of values -/
def eqM (M : Hm) : MV → MV → Option Bool
  | .int i, .int j => some (decide (i = j))
  | .str s, .str t => some (decide (s = t))
  | .bl s, .bl t => some (decide (s = t))
  | .int _, .str _ => some false
  | .str _, .int _ => some false
  | .non, .non => some true
  | d, e => eqD M d e
def fEqG (g : Bool → Bool) : MV → MV → Hm → R MV := fun d e M => match eqM M d e with
  | some b => .ok (.bl (g b)) M
  | none => .bad
abbrev fEq := fEqG id
abbrev fNe := fEqG not
theorem eq_dp {C : Cfg} {ρ : List Addr} {H : Hp} {M : Hm} (rh : RH C ρ H M) {d e : MV} {x y : V} {b : Bool} (rx : RV C.K H ρ d x) (ry : RV C.K H ρ e y) (h : eqM M d e = some b) :
    (scal x y = true ∧ b = decide (x = y)) ∨ ∃ p q, Dp C.K H x p ∧ Dp C.K H y q ∧ SeqAt.shaped p = true ∧ SeqAt.shaped q = true ∧ b = PyData.eqv p q := by
  unfold eqM at h
  split at h
  · rw [rv_int] at rx ry; subst rx; subst ry
    cases h
    exact .inl ⟨rfl, by rw [dec_int, Bool.beq_eq_decide_eq]⟩
  · rw [rv_str] at rx ry; subst rx; subst ry
    cases h
    refine .inl ⟨rfl, ?_⟩
    rw [dec_str, Bool.beq_eq_decide_eq]
    exact decide_eq_decide.mpr ⟨fun e => by rw [e], fun e => T_inj e⟩
  · rw [rv_bl] at rx ry; subst rx; subst ry
    cases h
    exact .inl ⟨rfl, by rw [dec_bl, Bool.beq_eq_decide_eq]⟩
  · rw [rv_int] at rx; rw [rv_str] at ry; subst rx; subst ry
    cases h
    exact .inl ⟨rfl, by simp⟩
  · rw [rv_str] at rx; rw [rv_int] at ry; subst rx; subst ry
    cases h
    exact .inl ⟨rfl, by simp⟩
  · rw [rv_non] at rx ry; subst rx; subst ry
    cases h
    exact .inl ⟨rfl, by simp⟩
  · unfold eqD at h
    split at h
    · rename_i p q h1 h2
      split at h
      · rename_i hs
        rw [Bool.and_eq_true] at hs
        cases h
        exact .inr ⟨p, q, dp_of rh _ _ _ _ rx h1, dp_of rh _ _ _ _ ry h2, hs.1, hs.2, rfl⟩
      · cases h
    · cases h
section
variable {X : Cx} {C : Cfg}
theorem op_eqM (hu : X.A.units + 64 < cLine) : OpR X (compareOp .Eq) (fun x y H Q => rEq x y H Q ∨ rEqD X.K x y H Q) := op_eq.or (op_eqD hu)
theorem op_neM (hu : X.A.units + 64 < cLine) : OpR X (compareOp .NotEq) (fun x y H Q => rNe x y H Q ∨ rNeD X.K x y H Q) := op_ne.or (op_neD hu)
theorem sim_eq : Sim2 C fEq (fun x y H Q => rEq x y H Q ∨ rEqD C.K x y H Q) := by
  intro ρ H M d e x y Q G rh rx ry p
  unfold fEq fEqG at p
  split at p
  · rename_i b h
    rcases eq_dp rh rx ry h with ⟨h1, h2⟩ | ⟨q, r, h1, h2, h3, h4, h5⟩
    · exact .inl ⟨h1, by rw [← h2]; exact p.val rh (rv_bl.mpr rfl)⟩
    · exact .inr ⟨q, r, h1, h2, h3, h4, by rw [← h5]; exact p.val rh (rv_bl.mpr rfl)⟩
  · exact p.elim
theorem sim_ne : Sim2 C fNe (fun x y H Q => rNe x y H Q ∨ rNeD C.K x y H Q) := by
  intro ρ H M d e x y Q G rh rx ry p
  unfold fNe fEqG at p
  split at p
  · rename_i b h
    rcases eq_dp rh rx ry h with ⟨h1, h2⟩ | ⟨q, r, h1, h2, h3, h4, h5⟩
    · exact .inl ⟨h1, by rw [← h2]; exact p.val rh (rv_bl.mpr rfl)⟩
    · exact .inr ⟨q, r, h1, h2, h3, h4, by rw [← h5]; exact p.val rh (rv_bl.mpr rfl)⟩
  · exact p.elim
end
end Mi
set_option maxRecDepth 100000
/-! Further operations: in, items, slices, built-ins, methods, what is walked. -/
namespace Mi
open PySem PySem.Spec PyProof.Rows L2
theorem T_one (c : Nat) : T [c] = ⟨#[c]⟩ := rfl
/-! ### in -/
def flatM : MV → Bool
  | .non => true | .bl _ => true | .int _ => true | .str _ => true
  | _ => false
/-- == of flat values -/
def eqF : MV → MV → Bool
  | .non, .non => true
  | .bl a, .bl b => a == b
  | .int a, .int b => a == b
  | .bl a, .int b => (if a then 1 else 0) == b
  | .int a, .bl b => a == (if b then 1 else 0)
  | .str a, .str b => decide (a = b)
  | _, _ => false
def inM (M : Hm) (x : MV) : MV → Option Bool
  | .str t => match x with
    | .str [c] => some (decide (c ∈ t))
    | _ => none
  | .tup l => if flatM x && l.all flatM then some (l.any fun y => eqF y x) else none
  | .ref i => match M[i]? with
    | some (.lst l) => if flatM x && l.all flatM then some (l.any fun y => eqF y x) else none
    | _ => none
  | .rol l => if flatM x && l.all flatM then some (l.any fun y => eqF y x) else none
  | _ => none
def fInG (g : Bool → Bool) : MV → MV → Hm → R MV := fun x y M => match inM M x y with
  | some b => .ok (.bl (g b)) M
  | none => .bad
abbrev fIn := fInG id
abbrev fNotIn := fInG not
theorem flat_of {K : PySem.W.Frag} {H : Hp} {ρ : List Addr} {d : MV} {v : V} (r : RV K H ρ d v) (h : flatM d = true) : flatV v = true := by
  cases d with
  | non => rw [rv_non] at r; subst r; rfl
  | bl b => rw [rv_bl] at r; subst r; rfl
  | int i => rw [rv_int] at r; subst r; rfl
  | str s => rw [rv_str] at r; subst r; rfl
  | _ => cases h
theorem eqF_of {K : PySem.W.Frag} {H : Hp} {ρ : List Addr} {d e : MV} {v w : V} (r : RV K H ρ d v) (r' : RV K H ρ e w) (h : flatM d = true) (h' : flatM e = true) : eqV v w = eqF d e := by
  cases d with
  | non =>
    rw [rv_non] at r; subst r
    cases e with
    | non => rw [rv_non] at r'; subst r'; rfl
    | bl b => rw [rv_bl] at r'; subst r'; rfl
    | int i => rw [rv_int] at r'; subst r'; rfl
    | str s => rw [rv_str] at r'; subst r'; rfl
    | _ => cases h'
  | bl b =>
    rw [rv_bl] at r; subst r
    cases e with
    | non => rw [rv_non] at r'; subst r'; rfl
    | bl b => rw [rv_bl] at r'; subst r'; rfl
    | int i => rw [rv_int] at r'; subst r'; rfl
    | str s => rw [rv_str] at r'; subst r'; rfl
    | _ => cases h'
  | int i =>
    rw [rv_int] at r; subst r
    cases e with
    | non => rw [rv_non] at r'; subst r'; rfl
    | bl b => rw [rv_bl] at r'; subst r'; rfl
    | int i => rw [rv_int] at r'; subst r'; rfl
    | str s => rw [rv_str] at r'; subst r'; rfl
    | _ => cases h'
  | str s =>
    rw [rv_str] at r; subst r
    cases e with
    | non => rw [rv_non] at r'; subst r'; rfl
    | bl b => rw [rv_bl] at r'; subst r'; rfl
    | int i => rw [rv_int] at r'; subst r'; rfl
    | str t =>
      rw [rv_str] at r'; subst r'
      show (T s == T t) = decide (s = t)
      rw [Bool.beq_eq_decide_eq]
      exact decide_eq_decide.mpr ⟨fun e => T_inj e, fun e => by rw [e]⟩
    | _ => cases h'
  | _ => cases h
theorem flats_of {K : PySem.W.Frag} {H : Hp} {ρ : List Addr} : ∀ {ds : List MV} {vs : List V}, RVs K H ρ ds vs → ds.all flatM = true → vs.all flatV = true
  | [], _, r, _ => by rw [rvs_nil] at r; subst r; rfl
  | d :: ds, _, r, h => by
    rw [rvs_cons] at r
    obtain ⟨v, t, rfl, r1, r2⟩ := r
    rw [List.all_cons, Bool.and_eq_true] at h
    rw [List.all_cons, flat_of r1 h.1, flats_of r2 h.2]
    rfl
theorem inV_of {K : PySem.W.Frag} {H : Hp} {ρ : List Addr} {x : MV} {v : V} (rx : RV K H ρ x v) (hx : flatM x = true) : ∀ {ds : List MV} {vs : List V}, RVs K H ρ ds vs → ds.all flatM = true → inV v vs = ds.any fun y => eqF y x
  | [], _, r, _ => by rw [rvs_nil] at r; subst r; rfl
  | d :: ds, _, r, h => by
    rw [rvs_cons] at r
    obtain ⟨w, t, rfl, r1, r2⟩ := r
    rw [List.all_cons, Bool.and_eq_true] at h
    show ((w :: t).any fun y => eqV y v) = _
    rw [List.any_cons, List.any_cons, eqF_of r1 rx h.1 hx]
    have := inV_of rx hx r2 h.2
    unfold inV at this
    rw [this]
def rInM (K : PySem.W.Frag) (neg : Bool) : R2 := fun x y H Q => (∃ (c : Nat) (z : Str), x = .str ⟨#[c]⟩ ∧ y = .str z ∧ Q (.bl (if neg then !decide (c ∈ z.cps.toList) else decide (c ∈ z.cps.toList))) H) ∨ rIn K neg x y H Q
theorem op_inM {X : Cx} : OpR X (compareOp .In) (rInM X.K false) := (show OpR X (compareOp .In) (fun x y H Q => ∃ (c : Nat) (z : Str), x = .str ⟨#[c]⟩ ∧ y = .str z ∧ Q (.bl (decide (c ∈ z.cps.toList))) H) from op_in_sign).or op_in_seq
theorem op_notInM {X : Cx} : OpR X (compareOp .NotIn) (rInM X.K true) := (show OpR X (compareOp .NotIn) (fun x y H Q => ∃ (c : Nat) (z : Str), x = .str ⟨#[c]⟩ ∧ y = .str z ∧ Q (.bl (!decide (c ∈ z.cps.toList))) H) from op_notIn_sign).or op_notIn_seq
theorem sim_inG {C : Cfg} (neg : Bool) : Sim2 C (fInG (if neg then not else id)) (rInM C.K neg) := by
  intro ρ H M d e x y Q G rh rx ry p
  unfold fInG at p
  split at p
  · rename_i b hb
    have fin : ∀ {l : List MV} {xs : List V} {a : Addr}, y = .ref a → (SqL C.K H a xs ∨ SqT C.K H a xs) → RVs C.K H ρ l xs → (if flatM d && l.all flatM then some (l.any fun y => eqF y d) else none) = some b → rIn C.K neg x y H Q := fun {l xs a} hy hs hr h => by
      split at h
      · rename_i hf
        rw [Bool.and_eq_true] at hf
        cases h
        refine ⟨a, xs, hy, hs, flat_of rx hf.1, flats_of hr hf.2, ?_⟩
        rw [inV_of rx hf.1 hr hf.2]
        have q := p.val rh (rv_bl.mpr rfl)
        cases neg <;> exact q
      · cases h
    cases e with
    | str t =>
      rw [rv_str] at ry; subst ry
      unfold inM at hb
      cases d with
      | str s =>
        rw [rv_str] at rx; subst rx
        cases s with
        | nil => cases hb
        | cons c r =>
          cases r with
          | nil =>
            have hb : some (decide (c ∈ t)) = some b := hb
            cases hb
            refine .inl ⟨c, T t, rfl, rfl, ?_⟩
            rw [T_list]
            have q := p.val rh (rv_bl.mpr rfl)
            cases neg <;> exact q
          | cons _ _ => cases hb
      | _ => cases hb
    | tup l =>
      rw [rv_tup] at ry
      obtain ⟨a, xs, rfl, h1, h2⟩ := ry
      exact .inr (fin rfl (.inr h1) h2 hb)
    | rol l =>
      rw [rv_rol] at ry
      obtain ⟨a, xs, rfl, h1, h2⟩ := ry
      exact .inr (fin rfl (.inl h1.sq) h2 hb)
    | ref i =>
      rw [rv_ref] at ry
      obtain ⟨a, ha, rfl⟩ := ry
      unfold inM at hb
      cases hm : M[i]? with
      | none => simp only [hm] at hb; cases hb
      | some o =>
        cases o with
        | lst l =>
          simp only [hm] at hb
          obtain ⟨xs, q1, q2⟩ := rh.at hm ha
          exact .inr (fin rfl (.inl (SqL.of q1)) q2 hb)
        | dic l => simp only [hm] at hb; cases hb
        | ins c fs => simp only [hm] at hb; cases hb
    | _ => cases hb
  · exact p.elim
theorem sim_in {C : Cfg} : Sim2 C fIn (rInM C.K false) := sim_inG false
theorem sim_notIn {C : Cfg} : Sim2 C fNotIn (rInM C.K true) := sim_inG true

/-! ### items -/
theorem atI_rel {K : PySem.W.Frag} {H : Hp} {ρ : List Addr} {ds : List MV} {vs : List V} {i : Int} {d : MV} (r : RVs K H ρ ds vs) (h : atI ds i = some d) : ∃ v, atI vs i = some v ∧ RV K H ρ d v := by
  unfold atI at h ⊢
  rw [r.len]
  cases hj : ixN ds.length i with
  | none => rw [hj] at h; cases h
  | some j =>
    rw [hj] at h
    exact r.get h
def fIx : MV → MV → Hm → R MV
  | .tup l, .int i, M => match atI l i with
    | some d => .ok d M
    | none => .bad
  | .str s, .int i, M => if s.length ≤ SL then (match atI s i with
    | some c => .ok (.str [c]) M
    | none => .bad) else .bad
  | .ref k, .int i, M => match M[k]? with
    | some (.lst l) => (match atI l i with
      | some d => .ok d M
      | none => .bad)
    | _ => .bad
  | .rol l, .int i, M => match atI l i with
    | some d => .ok d M
    | none => .bad
  | _, _, _ => .bad
theorem sim_ix {C : Cfg} : Sim2 C fIx (rIx C.K) := by
  intro ρ H M d e x y Q G rh rx ry p
  unfold fIx at p
  split at p
  · rw [rv_tup] at rx; rw [rv_int] at ry; subst ry
    obtain ⟨a, xs, rfl, h1, h2⟩ := rx
    split at p
    · rename_i d' hd
      obtain ⟨v, e1, r⟩ := atI_rel h2 hd
      exact .inr (.inl ⟨a, xs, _, v, rfl, rfl, h1, e1, p.val rh r⟩)
    · exact p.elim
  · rw [rv_str] at rx; rw [rv_int] at ry; subst rx; subst ry
    split at p
    · rename_i hl
      split at p
      · rename_i c hc
        exact .inr (.inr ⟨_, _, c, rfl, rfl, by rw [T_len, sizeLine_eq]; exact hl, by rw [T_list]; exact hc, p.val rh (rv_str.mpr rfl)⟩)
      · exact p.elim
    · exact p.elim
  · rw [rv_ref] at rx; rw [rv_int] at ry; subst ry
    obtain ⟨a, ha, rfl⟩ := rx
    split at p
    · rename_i l hm
      obtain ⟨xs, q1, q2⟩ := rh.at hm ha
      split at p
      · rename_i d' hd
        obtain ⟨v, e1, r⟩ := atI_rel q2 hd
        exact .inl ⟨a, xs, _, v, rfl, rfl, SqL.of q1, e1, p.val rh r⟩
      · exact p.elim
    · exact p.elim
  · rw [rv_rol] at rx; rw [rv_int] at ry; subst ry
    obtain ⟨a, xs, rfl, h1, h2⟩ := rx
    split at p
    · rename_i d' hd
      obtain ⟨v, e1, r⟩ := atI_rel h2 hd
      exact .inl ⟨a, xs, _, v, rfl, rfl, h1.sq, e1, p.val rh r⟩
    · exact p.elim
  · exact p.elim
theorem m_ix {X : Cx} {C : Cfg} {W : WX} {a b : Expr} {a' b' : Fe} {pos : Pos} (hC : C.K = X.K) (ha : PE X a (tE C W a')) (hb : PE X b (tE C W b')) (hs : PlainIx b := by intro _ _; rfl) : PE X (.Subscript a b pos) (tE C W (eOp fIx a' b')) := by
  refine PE.imp (pe_ix ix_seq ha hb hs) fun σ H Q h => ?_
  obtain ⟨ρ, M, env, rh, re, p⟩ := h
  refine ⟨ρ, M, env, rh, re, p.bind.imp (fun d M1 ρ1 H1 e1 rh1 p2 v rv => ?_) (fun _ _ _ _ _ _ q => q)⟩
  exact ⟨ρ1, M1, env, rh1, re.mono e1, p2.bind.imp (fun d2 M2 ρ2 H2 e2 rh2 p3 w rw_ => by rw [← hC]; exact sim_ix ρ2 H2 M2 d d2 v w Q _ rh2 (rv.mono e2) rw_ p3) (fun _ _ _ _ _ _ q => q)⟩

/-! ### slices -/
def cut {α : Type} (xs : List α) (lo hi : Option Int) : List α := (xs.drop (HT.sIx xs.length 0 lo)).take (HT.sIx xs.length xs.length hi - HT.sIx xs.length 0 lo)
abbrev Fo := Env → Hm → R (Option Int)
def oNone : Fo := fun _ M => .ok none M
def oSome (e : Fe) : Fo := fun env M => (e env M).bind fun x M1 => match x with
  | .int i => .ok (some i) M1
  | _ => .bad
abbrev tO (C : Cfg) (W : WX) (f : Fo) : TO := tG C W (fun _ _ a b => b = a) f
def eSl (f : MV → Option Int → Option Int → Hm → R MV) (a : Fe) (lo hi : Fo) : Fe := fun env M => (a env M).bind fun x M1 => (lo env M1).bind fun l M2 => (hi env M2).bind fun u M3 => f x l u M3
def fSl : MV → Option Int → Option Int → Hm → R MV
  | .tup l, lo, hi, M => .ok (.tup (cut l lo hi)) M
  | .str s, lo, hi, M => if s.length ≤ SL then .ok (.str (cut s lo hi)) M else .bad
  | .ref k, lo, hi, M => match M[k]? with
    | some (.lst l) => .ok (.ref M.length) (M ++ [.lst (cut l lo hi)])
    | _ => .bad
  | .rol l, lo, hi, M => .ok (.ref M.length) (M ++ [.lst (cut l lo hi)])
  | _, _, _, _ => .bad
theorem cut_rel {K : PySem.W.Frag} {H : Hp} {ρ : List Addr} {ds : List MV} {vs : List V} {lo hi : Option Int} (r : RVs K H ρ ds vs) : RVs K H ρ (cut ds lo hi) (cutV vs lo hi) := by
  unfold cut cutV
  rw [r.len]
  exact (r.drop _).take _
theorem cut_str (s : Tx) (lo hi : Option Int) : cutS (T s) lo hi = T (cut s lo hi) := by
  unfold cutS cut T
  show Str.mk ((s.toArray.toList.drop (HT.sIx s.toArray.size 0 lo)).take (HT.sIx s.toArray.size s.toArray.size hi - HT.sIx s.toArray.size 0 lo)).toArray = _
  simp
section
variable {X : Cx} {C : Cfg} {W : WX}
theorem mo_none : PO X none (tO C W oNone) := ⟨fun pins s σ H Q I h => by
  obtain ⟨ρ, M, env, rh, re, p⟩ := h
  exact po_none.run pins s σ H Q I (p.now rh none rfl)⟩
theorem mo_some {e : Expr} {e' : Fe} (he : PE X e (tE C W e')) : PO X (some e) (tO C W (oSome e')) := ⟨fun pins s σ H Q I h => by
  refine (po_some he).run pins s σ H Q I ?_
  obtain ⟨ρ, M, env, rh, re, p⟩ := h
  refine ⟨ρ, M, env, rh, re, p.bind.imp (fun d M1 ρ1 H1 e1 rh1 p2 v rv => ?_) (fun _ _ _ _ _ _ q => q)⟩
  cases d with
  | int i =>
    rw [rv_int] at rv
    exact ⟨i, rv, p2.now rh1 _ rfl⟩
  | _ => exact p2.elim⟩
theorem m_slice {e : Expr} {lo hi : Option Expr} {e' : Fe} {lo' hi' : Fo} {p2 pos : Pos} (hC : C.K = X.K) (he : PE X e (tE C W e')) (hl : PO X lo (tO C W lo')) (hu : PO X hi (tO C W hi')) : PE X (.Subscript e (.Slice lo hi none p2) pos) (tE C W (eSl fSl e' lo' hi')) := by
  refine PE.imp (pe_slice ((sl_tupA (X := X)).or ((sl_str (X := X)).or (sl_list (X := X)))) he hl hu) fun σ H Q h => ?_
  obtain ⟨ρ, M, env, rh, re, p⟩ := h
  refine ⟨ρ, M, env, rh, re, p.bind.imp (fun d M1 ρ1 H1 e1 rh1 p2 x rx => ?_) (fun _ _ _ _ _ _ q => q)⟩
  refine ⟨ρ1, M1, env, rh1, re.mono e1, p2.bind.imp (fun l M2 ρ2 H2 e2 rh2 p3 l' hl' => ?_) (fun _ _ _ _ _ _ q => q)⟩
  subst hl'
  refine ⟨ρ2, M2, env, rh2, (re.mono e1).mono e2, p3.bind.imp (fun u M3 ρ3 H3 e3 rh3 p4 u' hu' => ?_) (fun _ _ _ _ _ _ q => q)⟩
  subst hu'
  have rx := (rx.mono e2).mono e3
  cases d with
  | tup ll =>
    rw [rv_tup] at rx
    obtain ⟨a, xs, rfl, h1, h2⟩ := rx
    have p4 : Post C ρ3 H3 (.ok (.tup (cut ll l' u')) M3) (Fv C Q) _ := p4
    refine .inl ⟨a, xs, rfl, by rw [← hC]; exact h1, fun hw => ?_, fun hw q hq => p4.newT rh3 (cut_rel h2) hq⟩
    have hc : cut ll l' u' = ll := by
      have e := h2.len
      unfold cut
      rw [← e, hw.1, hw.2]
      simp [e]
    rw [hc] at p4
    exact p4.val rh3 (rv_tup.mpr ⟨a, xs, rfl, h1, h2⟩)
  | str s =>
    rw [rv_str] at rx
    subst rx
    have p4 : Post C ρ3 H3 (if s.length ≤ SL then .ok (.str (cut s l' u')) M3 else .bad) (Fv C Q) _ := p4
    split at p4
    · rename_i hl
      refine .inr (.inl ⟨_, rfl, by rw [T_len, sizeLine_eq]; exact hl, ?_⟩)
      rw [cut_str]
      exact p4.val rh3 (rv_str.mpr rfl)
    · exact p4.elim
  | ref k =>
    rw [rv_ref] at rx
    obtain ⟨a, ha, rfl⟩ := rx
    have p4 : Post C ρ3 H3 (match M3[k]? with
      | some (.lst l) => .ok (.ref M3.length) (M3 ++ [.lst (cut l l' u')])
      | _ => .bad) (Fv C Q) _ := p4
    split at p4
    · rename_i l hm
      obtain ⟨xs, q1, q2⟩ := rh3.at hm ha
      exact .inr (.inr ⟨a, xs, rfl, SqL.of q1, fun q hq => p4.newL rh3 (cut_rel q2) hq⟩)
    · exact p4.elim
  | rol l =>
    rw [rv_rol] at rx
    obtain ⟨a, xs, rfl, h1, h2⟩ := rx
    have p4 : Post C ρ3 H3 (.ok (.ref M3.length) (M3 ++ [.lst (cut l l' u')])) (Fv C Q) _ := p4
    exact .inr (.inr ⟨a, xs, rfl, by rw [← hC]; exact h1.sq, fun q hq => p4.newL rh3 (cut_rel h2) hq⟩)
  | _ => exact p4.elim
/-- xs[::-1] of a list -/
def fRev : MV → Hm → R MV
  | .ref k, M => match M[k]? with
    | some (.lst l) => .ok (.ref M.length) (M ++ [.lst l.reverse])
    | _ => .bad
  | _, _ => .bad
theorem m_revL {e : Expr} {e' : Fe} {k : Nat} {p1 p2 p3 pos : Pos} (he : PE X e (tE C W e')) : PE X (.Subscript e (.Slice none none (some (.UnaryOp .USub (.Constant (.int 1) k p1) p2)) p3) pos) (tE C W (eUn fRev e')) := by
  refine PE.imp (pe_revL he) fun σ H Q h => ?_
  obtain ⟨ρ, M, env, rh, re, p⟩ := h
  refine ⟨ρ, M, env, rh, re, p.bind.imp (fun d M1 ρ1 H1 e1 rh1 p2 x rx => ?_) (fun _ _ _ _ _ _ q => q)⟩
  unfold fRev at p2
  split at p2
  · rw [rv_ref] at rx
    obtain ⟨a, ha, rfl⟩ := rx
    split at p2
    · rename_i l hm
      obtain ⟨xs, q1, q2⟩ := rh1.at hm ha
      exact ⟨a, xs, rfl, SqL.of q1, fun q hq => p2.newL rh1 q2.rev hq⟩
    · exact p2.elim
  · exact p2.elim
end
end Mi
set_option maxRecDepth 100000
/-! Built-ins and methods. -/
namespace Mi
open PySem PySem.Spec PyProof.Rows L2
section
variable {X : Cx} {C : Cfg} {W : WX}
/-- a built-in function by its name -/
theorem m_bif {x : Str} {p pos : Pos} {e : Expr} {es : List Expr} {id : String} {r : List V → Hp → VK → Prop} {f : List MV → Hm → R MV} {t' : Fa} (hc : CallR X (.builtin id) r) (hs : SimC C f r) (hm : X.mg x = none) (ha : PA X (e :: es) (tA C W t'))
    (hg : Gl X x := by rfl) (hv : bootBuiltins x = some (.builtin id) := by decide +kernel) (hn : x ≠ "__name__" := by decide) (hdb : (x == ("__debug__" : Str)) = false := by decide)
    (he : starEach (e :: es) X.env = (false, eval e X.env) :: starEach es X.env := by rfl) (hpl : (backTo pos (starEach es X.env)).any (·.1) = false := by rfl) : PE X (.Call (.Name x p) (e :: es) [] pos) (tE C W (eFn f t')) := by
  refine PE.imp (pe_callB hc hg hm hv ha hn hdb he hpl) fun σ H Q h => ?_
  obtain ⟨ρ, M, env, rh, re, p⟩ := h
  exact ⟨ρ, M, env, rh, re, p.bind.imp (fun ds M1 ρ1 H1 e1 rh1 p2 vs rvs => hs ρ1 H1 M1 ds vs Q _ rh1 rvs p2) (fun _ _ _ _ _ _ q => q)⟩
/-- a built-in type, called -/
theorem m_bty {x : Str} {p pos : Pos} {e : Expr} {es : List Expr} {id : String} {r : List V → Hp → VK → Prop} {f : List MV → Hm → R MV} {t' : Fa} (hc : CallR X (.type id) r) (hs : SimC C f r) (hm : X.mg x = none) (ha : PA X (e :: es) (tA C W t'))
    (hg : Gl X x := by rfl) (hv : bootBuiltins x = some (.type id) := by decide +kernel) (hn : x ≠ "__name__" := by decide) (hdb : (x == ("__debug__" : Str)) = false := by decide)
    (he : starEach (e :: es) X.env = (false, eval e X.env) :: starEach es X.env := by rfl) (hpl : (backTo pos (starEach es X.env)).any (·.1) = false := by rfl) : PE X (.Call (.Name x p) (e :: es) [] pos) (tE C W (eFn f t')) := by
  refine PE.imp (pe_callTy hc hg hm hv ha hn hdb he hpl) fun σ H Q h => ?_
  obtain ⟨ρ, M, env, rh, re, p⟩ := h
  exact ⟨ρ, M, env, rh, re, p.bind.imp (fun ds M1 ρ1 H1 e1 rh1 p2 vs rvs => hs ρ1 H1 M1 ds vs Q _ rh1 rvs p2) (fun _ _ _ _ _ _ q => q)⟩
/-- what a method's receiver is -/
inductive Ty where | str | list | dict | int
  deriving DecidableEq
def Ty.nm : Ty → String
  | .str => "str" | .list => "list" | .dict => "dict" | .int => "int"
def isTy (M : Hm) : Ty → MV → Bool
  | .str, .str _ => true
  | .int, .int _ => true
  | .list, .rol _ => true
  | .list, .ref i => (match M[i]? with | some (.lst _) => true | _ => false)
  | .dict, .ref i => (match M[i]? with | some (.dic _) => true | _ => false)
  | _, _ => false
theorem isTy_tyV {ρ : List Addr} {H : Hp} {M : Hm} {t : Ty} {d : MV} {v : V} (rh : RH C ρ H M) (r : RV C.K H ρ d v) (h : isTy M t d = true) : tyV C.K t.nm v H := by
  cases d with
  | str s => rw [rv_str] at r; subst r; cases t <;> first | rfl | cases h
  | int i => rw [rv_int] at r; subst r; cases t <;> first | rfl | cases h
  | rol l =>
    rw [rv_rol] at r
    obtain ⟨a, xs, rfl, h1, h2⟩ := r
    cases t <;> first | cases h | skip
    exact .inl ⟨rfl, xs, h1.sq⟩
  | ref i =>
    rw [rv_ref] at r
    obtain ⟨a, ha, rfl⟩ := r
    cases hm : M[i]? with
    | none => cases t <;> simp [isTy, hm] at h
    | some o =>
      cases o with
      | lst l =>
        obtain ⟨xs, q1, q2⟩ := rh.at hm ha
        cases t <;> first | (simp [isTy, hm] at h; done) | exact .inl ⟨rfl, xs, SqL.of q1⟩
      | dic l =>
        obtain ⟨ks, q1, q2⟩ := rh.at hm ha
        cases t <;> first | (simp [isTy, hm] at h; done) | exact .inr (.inr (.inl ⟨rfl, .inl ⟨ks, q1⟩⟩))
      | ins c fs => cases t <;> simp [isTy, hm] at h
  | _ => cases t <;> cases h
def eMet (ty : Ty) (f : MV → List MV → Hm → R MV) (o : Fe) (t : Fa) : Fe := fun env M => (o env M).bind fun x M1 => if isTy M1 ty x then (t env M1).bind fun xs M2 => f x xs M2 else .bad
theorem m_met {ty : Ty} {o e : Expr} {es : List Expr} {name : Str} {apos cpos : Pos} {id : String} {r : V → List V → Hp → VK → Prop} {f : MV → List MV → Hm → R MV} {o' : Fe} {t' : Fa} (hC : C.K = X.K) (pa : PlainAttrs ty.nm) (slot : Slot ty.nm name id) (hty : typeOf (.builtin id) = pure (.type "method_descriptor")) (hm : MtR X id r) (hs : SimM C f r)
    (ho : PE X o (tE C W o')) (ha : PA X (e :: es) (tA C W t'))
    (hbase : attributeBase o name X.env (eval o X.env) = eval o X.env := by rfl)
    (hfew : ((backTo cpos (starEach (e :: es) X.env)).all (fun x => !x.1) && (backToKw cpos (keywordEach [] X.env)).all (fun x => x.1.isSome)
      && decide ((e :: es).length + ([] : List Keyword).length + (if ([] : List Keyword).isEmpty then 0 else 1) < 30)) = true := by rfl)
    (hline : (apos.endLine == cpos.line) = true := by rfl) (hst : starEach (e :: es) X.env = (false, eval e X.env) :: starEach es X.env := by rfl) (hplain : (backTo cpos (starEach es X.env)).any (·.1) = false := by rfl) :
    PE X (.Call (.Attribute o name apos) (e :: es) [] cpos) (tE C W (eMet ty f o' t')) := by
  refine PE.imp (pe_bm pa slot hty hm ho ha hbase hfew hline hst hplain) fun σ H Q h => ?_
  obtain ⟨ρ, M, env, rh, re, p⟩ := h
  refine ⟨ρ, M, env, rh, re, p.bind.imp (fun d M1 ρ1 H1 e1 rh1 p2 v rv => ?_) (fun _ _ _ _ _ _ q => q)⟩
  split at p2
  · rename_i ht
    refine ⟨by rw [← hC]; exact isTy_tyV rh1 rv ht, ρ1, M1, env, rh1, re.mono e1, p2.bind.imp (fun ds M2 ρ2 H2 e2 rh2 p3 vs rvs => hs ρ2 H2 M2 d ds v vs Q _ rh2 (rv.mono e2) rvs p3) (fun _ _ _ _ _ _ q => q)⟩
  · exact p2.elim
theorem m_met0 {ty : Ty} {o : Expr} {name : Str} {apos cpos : Pos} {id : String} {r : V → List V → Hp → VK → Prop} {f : MV → List MV → Hm → R MV} {o' : Fe} (hC : C.K = X.K) (pa : PlainAttrs ty.nm) (slot : Slot ty.nm name id) (hty : typeOf (.builtin id) = pure (.type "method_descriptor")) (hm : MtR X id r) (hs : SimM C f r)
    (ho : PE X o (tE C W o')) (hbase : attributeBase o name X.env (eval o X.env) = eval o X.env := by rfl) (hline : (apos.endLine == cpos.line) = true := by rfl) :
    PE X (.Call (.Attribute o name apos) [] [] cpos) (tE C W (eMet ty f o' aNil)) := by
  refine PE.imp (pe_bm0 pa slot hty hm ho hbase hline) fun σ H Q h => ?_
  obtain ⟨ρ, M, env, rh, re, p⟩ := h
  refine ⟨ρ, M, env, rh, re, p.bind.imp (fun d M1 ρ1 H1 e1 rh1 p2 v rv => ?_) (fun _ _ _ _ _ _ q => q)⟩
  split at p2
  · rename_i ht
    exact ⟨by rw [← hC]; exact isTy_tyV rh1 rv ht, hs ρ1 H1 M1 d [] v [] Q _ rh1 rv RVs.nil p2⟩
  · exact p2.elim
end

/-! ### built-ins -/
theorem one_rv {K : PySem.W.Frag} {H : Hp} {ρ : List Addr} {d : MV} {vs : List V} (r : RVs K H ρ [d] vs) : ∃ v, vs = [v] ∧ RV K H ρ d v := by
  rw [rvs_cons] at r
  obtain ⟨v, t, rfl, r1, r2⟩ := r
  rw [rvs_nil] at r2
  subst r2
  exact ⟨v, rfl, r1⟩
theorem two_rv {K : PySem.W.Frag} {H : Hp} {ρ : List Addr} {d e : MV} {vs : List V} (r : RVs K H ρ [d, e] vs) : ∃ v w, vs = [v, w] ∧ RV K H ρ d v ∧ RV K H ρ e w := by
  rw [rvs_cons] at r
  obtain ⟨v, t, rfl, r1, r2⟩ := r
  obtain ⟨w, rfl, r3⟩ := one_rv r2
  exact ⟨v, w, rfl, r1, r3⟩
def fLen : List MV → Hm → R MV
  | [.str s], M => if s.length ≤ SL then .ok (.int s.length) M else .bad
  | [.tup l], M => .ok (.int l.length) M
  | [.rol l], M => .ok (.int l.length) M
  | [.ref i], M => match M[i]? with
    | some (.lst l) => .ok (.int l.length) M
    | _ => .bad
  | _, _ => .bad
theorem sim_len {C : Cfg} : SimC C fLen (fun xs H Q => ∃ x n, xs = [x] ∧ LenV C.K x H n ∧ Q (.int n) H) := by
  intro ρ H M ds xs Q G rh rx p
  unfold fLen at p
  split at p
  · obtain ⟨v, rfl, r⟩ := one_rv rx
    rw [rv_str] at r
    subst r
    split at p
    · rename_i hl
      exact ⟨_, _, rfl, ⟨by rw [T_len, sizeLine_eq]; exact hl, rfl⟩, by rw [T_len]; exact p.val rh (rv_int.mpr rfl)⟩
    · exact p.elim
  · obtain ⟨v, rfl, r⟩ := one_rv rx
    rw [rv_tup] at r
    obtain ⟨a, ys, rfl, h1, h2⟩ := r
    exact ⟨_, ys.length, rfl, .inr ⟨ys, h1, rfl⟩, by rw [h2.len]; exact p.val rh (rv_int.mpr rfl)⟩
  · obtain ⟨v, rfl, r⟩ := one_rv rx
    rw [rv_rol] at r
    obtain ⟨a, ys, rfl, h1, h2⟩ := r
    exact ⟨_, ys.length, rfl, .inl ⟨ys, h1.sq, rfl⟩, by rw [h2.len]; exact p.val rh (rv_int.mpr rfl)⟩
  · obtain ⟨v, rfl, r⟩ := one_rv rx
    rw [rv_ref] at r
    obtain ⟨a, ha, rfl⟩ := r
    split at p
    · rename_i l hm
      obtain ⟨ys, q1, q2⟩ := rh.at hm ha
      exact ⟨_, ys.length, rfl, .inl ⟨ys, SqL.of q1, rfl⟩, by rw [q2.len]; exact p.val rh (rv_int.mpr rfl)⟩
    · exact p.elim
  · exact p.elim
/-- the signs of a number -/
def numT (i : Int) : Tx := if i < 0 then 45 :: TL.numL i.natAbs else TL.numL i.natAbs
theorem num_T (i : Int) : (toString i : Str) = T (numT i) := by
  have key : ∀ n : Nat, Str.ofString (toString ((n : Nat) : Int)) = T (TL.numL n) := fun n => by
    have h := PySem.W.KIN.signs_num n
    cases q : Str.ofString (toString ((n : Nat) : Int)) with
    | mk cps =>
      rw [q] at h
      show Str.mk cps = Str.mk _
      congr 1
      have h : cps.toList = TL.numL n := h
      rw [← h]
  cases i with
  | ofNat n =>
    have h : ¬ ((Int.ofNat n) < 0) := by simp
    unfold numT
    rw [if_neg h]
    exact key n
  | negSucc n =>
    have h : (Int.negSucc n) < 0 := Int.negSucc_lt_zero n
    unfold numT
    rw [if_pos h]
    show Str.ofString (toString (Int.negSucc n)) = _
    have e1 : (toString (Int.negSucc n)) = "-" ++ toString (((n + 1 : Nat)) : Int) := rfl
    rw [e1]
    have e2 : Str.ofString ("-" ++ toString (((n + 1 : Nat)) : Int)) = T [45] ++ Str.ofString (toString (((n + 1 : Nat)) : Int)) := by
      rw [Str.ofString_eq_toList, Str.ofString_eq_toList]
      show Str.mk _ = Str.mk ([45].toArray ++ _)
      congr 1
      simp
    rw [e2, key, T_app]
    rfl
def fStr : List MV → Hm → R MV
  | [.int i], M => if i.natAbs.log2 < 1920 then .ok (.str (numT i)) M else .bad
  | _, _ => .bad
theorem sim_str {C : Cfg} : SimC C fStr (fun xs H Q => ∃ i : Int, xs = [.int i] ∧ i.natAbs.log2 < 1920 ∧ Q (.str (toString i)) H) := by
  intro ρ H M ds xs Q G rh rx p
  unfold fStr at p
  split at p
  · obtain ⟨v, rfl, r⟩ := one_rv rx
    rw [rv_int] at r
    subst r
    split at p
    · rename_i i hl
      refine ⟨_, rfl, hl, ?_⟩
      rw [num_T]
      exact p.val rh (rv_str.mpr rfl)
    · exact p.elim
  · exact p.elim
def allDig (s : Tx) : Bool := s.all fun c => decide (48 ≤ c) && decide (c ≤ 57)
def fIntOf : List MV → Hm → R MV
  | [.int i], M => .ok (.int i) M
  | [.bl b], M => .ok (.int (if b then 1 else 0)) M
  | [.str s], M => if allDig s && !s.isEmpty && decide (s.length ≤ 640) then .ok (.int (NumText.digitsVal s : Nat)) M else .bad
  | _, _ => .bad
abbrev rIntOf : List V → Hp → VK → Prop := fun xs H Q => ((∃ i, xs = [.int i] ∧ Q (.int i) H) ∨ ∃ k, xs = [.bl k] ∧ Q (.int (if k then 1 else 0)) H) ∨ ∃ a n, xs = [.str a] ∧ PySem.intText? a = some n ∧ a.length ≤ 640 ∧ Q (.int n) H
theorem call_intOf {X : Cx} : CallR X (.type "int") rIntOf := call_int1.or call_int_str
theorem sim_intOf {C : Cfg} : SimC C fIntOf rIntOf := by
  intro ρ H M ds xs Q G rh rx p
  unfold fIntOf at p
  split at p
  · obtain ⟨v, rfl, r⟩ := one_rv rx
    rw [rv_int] at r
    subst r
    exact .inl (.inl ⟨_, rfl, p.val rh (rv_int.mpr rfl)⟩)
  · obtain ⟨v, rfl, r⟩ := one_rv rx
    rw [rv_bl] at r
    subst r
    exact .inl (.inr ⟨_, rfl, p.val rh (rv_int.mpr rfl)⟩)
  · obtain ⟨v, rfl, r⟩ := one_rv rx
    rw [rv_str] at r
    subst r
    split at p
    · rename_i s hl
      simp only [Bool.and_eq_true, decide_eq_true_eq, Bool.not_eq_true'] at hl
      obtain ⟨⟨h1, h2⟩, h3⟩ := hl
      have hd : NumText.AllDigits s := fun c hc => by
        have := List.all_eq_true.mp h1 c hc
        simpa using this
      refine .inr ⟨_, _, rfl, PySem.intText_digits (x := T s) (by rw [T_list]; exact hd) ?_ (by rw [T_len]; omega), by rw [T_len]; exact h3, ?_⟩
      · rw [T_list]; intro e; rw [e] at h2; cases h2
      · rw [T_list]; exact p.val rh (rv_int.mpr rfl)
    · exact p.elim
  · exact p.elim
def fAbs : List MV → Hm → R MV
  | [.int i], M => .ok (.int (if i < 0 then -i else i)) M
  | _, _ => .bad
theorem sim_abs {C : Cfg} : SimC C fAbs (fun xs H Q => ∃ i, xs = [.int i] ∧ Q (.int (if i < 0 then -i else i)) H) := by
  intro ρ H M ds xs Q G rh rx p
  unfold fAbs at p
  split at p
  · obtain ⟨v, rfl, r⟩ := one_rv rx
    rw [rv_int] at r
    subst r
    exact ⟨_, rfl, p.val rh (rv_int.mpr rfl)⟩
  · exact p.elim
def fOrd : List MV → Hm → R MV
  | [.str [c]], M => .ok (.int (c : Nat)) M
  | _, _ => .bad
theorem sim_ord {C : Cfg} : SimC C fOrd (fun xs H Q => ∃ x : Str, xs = [.str x] ∧ x.length = 1 ∧ Q (.int (x.cps.getD 0 0 : Nat)) H) := by
  intro ρ H M ds xs Q G rh rx p
  unfold fOrd at p
  split at p
  · obtain ⟨v, rfl, r⟩ := one_rv rx
    rw [rv_str] at r
    subst r
    exact ⟨_, rfl, rfl, p.val rh (rv_int.mpr rfl)⟩
  · exact p.elim
/-- tuple(x), list(x) -/
def fTuple : List MV → Hm → R MV
  | [.tup l], M => .ok (.tup l) M
  | [.rol l], M => .ok (.tup l) M
  | [.ref i], M => match M[i]? with
    | some (.lst l) => .ok (.tup l) M
    | _ => .bad
  | _, _ => .bad
theorem sim_tuple {C : Cfg} : SimC C fTuple (fun xs H Q => ∃ p ys, xs = [.ref p] ∧ ((SqL C.K H p ys ∧ ∀ l, H l = none → Q (.ref l) (upd H l (.tup ys))) ∨ (SqT C.K H p ys ∧ Q (.ref p) H))) := by
  intro ρ H M ds xs Q G rh rx p
  unfold fTuple at p
  split at p
  · obtain ⟨v, rfl, r⟩ := one_rv rx
    rw [rv_tup] at r
    obtain ⟨a, ys, rfl, h1, h2⟩ := r
    exact ⟨a, ys, rfl, .inr ⟨h1, p.val rh (rv_tup.mpr ⟨a, ys, rfl, h1, h2⟩)⟩⟩
  · obtain ⟨v, rfl, r⟩ := one_rv rx
    rw [rv_rol] at r
    obtain ⟨a, ys, rfl, h1, h2⟩ := r
    exact ⟨a, ys, rfl, .inl ⟨h1.sq, fun l hl => p.newT rh h2 hl⟩⟩
  · obtain ⟨v, rfl, r⟩ := one_rv rx
    rw [rv_ref] at r
    obtain ⟨a, ha, rfl⟩ := r
    split at p
    · rename_i l hm
      obtain ⟨ys, q1, q2⟩ := rh.at hm ha
      exact ⟨a, ys, rfl, .inl ⟨SqL.of q1, fun l hl => p.newT rh q2 hl⟩⟩
    · exact p.elim
  · exact p.elim
def fList : List MV → Hm → R MV
  | [.tup l], M => .ok (.ref M.length) (M ++ [.lst l])
  | [.rol l], M => .ok (.ref M.length) (M ++ [.lst l])
  | [.ref i], M => match M[i]? with
    | some (.lst l) => .ok (.ref M.length) (M ++ [.lst l])
    | _ => .bad
  | _, _ => .bad
theorem sim_list {C : Cfg} : SimC C fList (fun xs H Q => ∃ p ys, xs = [.ref p] ∧ (SqL C.K H p ys ∨ SqT C.K H p ys) ∧ ∀ l, H l = none → Q (.ref l) (upd H l (.lst ys))) := by
  intro ρ H M ds xs Q G rh rx p
  unfold fList at p
  split at p
  · obtain ⟨v, rfl, r⟩ := one_rv rx
    rw [rv_tup] at r
    obtain ⟨a, ys, rfl, h1, h2⟩ := r
    exact ⟨a, ys, rfl, .inr h1, fun l hl => p.newL rh h2 hl⟩
  · obtain ⟨v, rfl, r⟩ := one_rv rx
    rw [rv_rol] at r
    obtain ⟨a, ys, rfl, h1, h2⟩ := r
    exact ⟨a, ys, rfl, .inl h1.sq, fun l hl => p.newL rh h2 hl⟩
  · obtain ⟨v, rfl, r⟩ := one_rv rx
    rw [rv_ref] at r
    obtain ⟨a, ha, rfl⟩ := r
    split at p
    · rename_i l hm
      obtain ⟨ys, q1, q2⟩ := rh.at hm ha
      exact ⟨a, ys, rfl, .inl (SqL.of q1), fun l hl => p.newL rh q2 hl⟩
    · exact p.elim
  · exact p.elim
/-- divmod(n, k) -/
def fDivmod : List MV → Hm → R MV
  | [.int i, .int j], M => if cDiv i j then .ok (.tup [.int (i / j), .int (i % j)]) M else .bad
  | _, _ => .bad
theorem sim_divmod {C : Cfg} : SimC C fDivmod (fun xs H Q => ∃ i j, xs = [.int i, .int j] ∧ CDivP i j ∧ ∀ p, H p = none → Q (.ref p) (upd H p (.tup [.int (i / j), .int (i % j)]))) := by
  intro ρ H M ds xs Q G rh rx p
  unfold fDivmod at p
  split at p
  · obtain ⟨v, w, rfl, r1, r2⟩ := two_rv rx
    rw [rv_int] at r1 r2
    subst r1; subst r2
    split at p
    · rename_i i j h
      unfold cDiv at h
      rw [Bool.and_eq_true, decide_eq_true_eq, decide_eq_true_eq] at h
      exact ⟨_, _, rfl, ⟨h.1, PyProof.noPylong_of_log2 h.2⟩, fun l hl => p.newT rh (RVs.cons (rv_int.mpr rfl) (RVs.cons (rv_int.mpr rfl) RVs.nil)) hl⟩
    · exact p.elim
  · exact p.elim
/-- all(xs), any(xs) of bools -/
def boolsOf (l : List MV) : Option (List Bool) := l.mapM fun d => match d with
  | .bl b => some b
  | _ => none
def fAllG (g : List Bool → Bool) : List MV → Hm → R MV
  | [.ref i], M => match M[i]? with
    | some (.lst l) => (match boolsOf l with
      | some bs => .ok (.bl (g bs)) M
      | none => .bad)
    | _ => .bad
  | _, _ => .bad
theorem bools_rv {K : PySem.W.Frag} {H : Hp} {ρ : List Addr} : ∀ {l : List MV} {vs : List V} {bs : List Bool}, RVs K H ρ l vs → boolsOf l = some bs → vs = bs.map V.bl
  | [], vs, bs, r, h => by
    rw [rvs_nil] at r
    subst r
    cases h
    rfl
  | d :: l, vs, bs, r, h => by
    rw [rvs_cons] at r
    obtain ⟨v, t, rfl, r1, r2⟩ := r
    unfold boolsOf at h
    rw [List.mapM_cons] at h
    cases d with
    | bl b =>
      rw [rv_bl] at r1
      subst r1
      cases e : boolsOf l with
      | none => unfold boolsOf at e; simp only [e] at h; cases h
      | some cs =>
        have e' := e
        unfold boolsOf at e
        simp only [e] at h
        cases h
        rw [bools_rv r2 e']
        rfl
    | _ => cases h
theorem sim_allG {C : Cfg} {g : List Bool → Bool} : SimC C (fAllG g) (fun vs H Q => ∃ (a : Addr) (bs : List Bool), vs = [V.ref a] ∧ SqL C.K H a (bs.map V.bl) ∧ Q (.bl (g bs)) H) := by
  intro ρ H M ds xs Q G rh rx p
  unfold fAllG at p
  split at p
  · obtain ⟨v, rfl, r⟩ := one_rv rx
    rw [rv_ref] at r
    obtain ⟨a, ha, rfl⟩ := r
    split at p
    · rename_i l hm
      obtain ⟨ys, q1, q2⟩ := rh.at hm ha
      split at p
      · rename_i bs hb
        exact ⟨a, bs, rfl, by rw [← bools_rv q2 hb]; exact SqL.of q1, p.val rh (rv_bl.mpr rfl)⟩
      · exact p.elim
    · exact p.elim
  · exact p.elim
abbrev fAll := fAllG fun bs => bs.all id
abbrev fAny := fAllG fun bs => bs.any id

/-! ### isinstance -/
def tyN (M : Hm) : MV → Option String
  | .non => some "NoneType"
  | .bl _ => some "bool"
  | .int _ => some "int"
  | .str _ => some "str"
  | .tup _ => some "tuple"
  | .rol _ => some "list"
  | .ref i => match M[i]? with
    | some (.lst _) => some "list"
    | some (.dic _) => some "dict"
    | _ => none
def fIsi (c : String) : List MV → Hm → R MV
  | [d], M => match tyN M d with
    | some t => (match kitB t c with
      | some b => .ok (.bl b) M
      | none => .bad)
    | none => .bad
  | _, _ => .bad
theorem tyN_ok {C : Cfg} {ρ : List Addr} {H : Hp} {M : Hm} {d : MV} {v : V} {t : String} (rh : RH C ρ H M) (r : RV C.K H ρ d v) (h : tyN M d = some t) : TyX C.K H v (.type t) := by
  cases d with
  | non => rw [rv_non] at r; subst r; cases h; exact .base .non
  | bl b => rw [rv_bl] at r; subst r; cases h; exact .base (.bl b)
  | int i => rw [rv_int] at r; subst r; cases h; exact .base (.int i)
  | str s => rw [rv_str] at r; subst r; cases h; exact .base (.str _)
  | tup l =>
    rw [rv_tup] at r
    obtain ⟨a, xs, rfl, h1, h2⟩ := r
    cases h
    rcases h1 with (h1 | ⟨o, h1⟩) | ⟨o, its, n, hk, hc, _⟩
    · exact .base (.tup h1)
    · exact .fTuple h1
    · exact .kTuple hk hc
  | rol l =>
    rw [rv_rol] at r
    obtain ⟨a, xs, rfl, h1, h2⟩ := r
    cases h
    rcases h1 with ⟨o, h1⟩ | ⟨o, its, n, hk, hc, _⟩
    · exact .base (.frz h1)
    · exact .kList hk hc
  | ref i =>
    rw [rv_ref] at r
    obtain ⟨a, ha, rfl⟩ := r
    cases hm : M[i]? with
    | none => simp [tyN, hm] at h
    | some o =>
      cases o with
      | lst l =>
        obtain ⟨xs, q1, q2⟩ := rh.at hm ha
        simp [tyN, hm] at h
        subst h
        exact .base (.lst q1)
      | dic l =>
        obtain ⟨xs, q1, q2⟩ := rh.at hm ha
        simp [tyN, hm] at h
        subst h
        exact .base (.dK q1)
      | ins c fs => simp [tyN, hm] at h
section
variable {X : Cx} {C : Cfg} {W : WX}
/-- isinstance(e, T), T a built-in type -/
theorem m_isi {c : String} {cx : Str} {e : Expr} {e' : Fe} {p p2 pos : Pos} (hC : C.K = X.K) (he : PE X e (tE C W e')) (hm : X.mg "isinstance" = none) (hmc : X.mg cx = none) (hbc : bootBuiltins cx = some (.type c) := by decide +kernel)
    (hg : Gl X "isinstance" := by rfl) (hgc : Gl X cx := by rfl) (hn : cx ≠ "__name__" := by decide) (hdb : (cx == ("__debug__" : Str)) = false := by decide)
    (hst : starEach [e, .Name cx p2] X.env = (false, eval e X.env) :: starEach [.Name cx p2] X.env := by rfl) (hpl : (backTo pos (starEach [.Name cx p2] X.env)).any (·.1) = false := by rfl) :
    PE X (.Call (.Name "isinstance" p) [e, .Name cx p2] [] pos) (tE C W (eFn (fIsi c) (aCons e' aNil))) := by
  have hc : PE X (.Name cx p2) (tC (.ty c)) := pe_bltn hgc hmc hbc rfl hn hdb
  refine PE.imp (pe_callB (X := X) call_isi hg hm (by decide +kernel) (pa_cons he (pa_cons hc pa_nil) hst) (by decide) (by decide) hst hpl) fun σ H Q h => ?_
  obtain ⟨ρ, M, env, rh, re, p⟩ := h
  have p := p.bind.bind
  refine ⟨ρ, M, env, rh, re, p.imp (fun d M1 ρ1 H1 e1 rh1 p2 v rv => ?_) (fun _ _ _ _ _ _ q => q)⟩
  have p3 : Post C ρ1 H1 (match tyN M1 d with
    | some t => (match kitB t c with
      | some b => .ok (.bl b) M1
      | none => .bad)
    | none => .bad) (Fv C Q) _ := (p2.bind.now rh1).now rh1
  split at p3
  · rename_i t ht
    split at p3
    · rename_i b hb
      exact ⟨v, .ty c, _, _, b, rfl, .ty c, by rw [← hC]; exact tyN_ok rh1 rv ht, kit_ty hb, p3.val rh1 (rv_bl.mpr rfl)⟩
    · exact p3.elim
  · exact p3.elim
end

/-! ### methods -/
def fAppend : MV → List MV → Hm → R MV
  | .ref i, [d], M => match M[i]? with
    | some (.lst l) => if l.length < SL then .ok .non (M.set i (.lst (l ++ [d]))) else .bad
    | _ => .bad
  | _, _, _ => .bad
theorem sim_append {C : Cfg} : SimM C fAppend rAppend := by
  intro ρ H M d ds x xs Q G rh rx rxs p
  unfold fAppend at p
  split at p
  · obtain ⟨v, rfl, r⟩ := one_rv rxs
    rw [rv_ref] at rx
    obtain ⟨a, ha, rfl⟩ := rx
    split at p
    · rename_i l hm
      obtain ⟨ys, q1, q2⟩ := rh.at hm ha
      split at p
      · rename_i hl
        exact ⟨a, ys, v, rfl, rfl, q1, by rw [q2.len, sizeLine_eq]; exact hl, p.setL rh ha (q2.snoc r) (rv_non.mpr rfl)⟩
      · exact p.elim
    · exact p.elim
  · exact p.elim
def fPop : MV → List MV → Hm → R MV
  | .ref i, [], M => match M[i]? with
    | some (.lst l) => (match l[l.length - 1]? with
      | some d => .ok d (M.set i (.lst l.dropLast))
      | none => .bad)
    | _ => .bad
  | _, _, _ => .bad
theorem RVs.dropLast {K : PySem.W.Frag} {H : Hp} {ρ : List Addr} {l : List MV} {vs : List V} (r : RVs K H ρ l vs) : RVs K H ρ l.dropLast vs.dropLast := by
  rw [List.dropLast_eq_take, List.dropLast_eq_take, r.len]
  exact r.take _
theorem sim_pop {C : Cfg} : SimM C fPop rPop := by
  intro ρ H M d ds x xs Q G rh rx rxs p
  unfold fPop at p
  split at p
  · rw [rvs_nil] at rxs
    subst rxs
    rw [rv_ref] at rx
    obtain ⟨a, ha, rfl⟩ := rx
    split at p
    · rename_i l hm
      obtain ⟨ys, q1, q2⟩ := rh.at hm ha
      split at p
      · rename_i d hd
        obtain ⟨v, e1, r⟩ := q2.get hd
        exact ⟨a, ys, v, rfl, rfl, q1, by rw [q2.len]; exact e1, p.setL rh ha q2.dropLast r⟩
      · exact p.elim
    · exact p.elim
  · exact p.elim
/-- texts of a list -/
def textsOf (l : List MV) : Option (List Tx) := l.mapM fun d => match d with
  | .str s => some s
  | _ => none
theorem texts_rv {K : PySem.W.Frag} {H : Hp} {ρ : List Addr} : ∀ {l : List MV} {vs : List V} {ss : List Tx}, RVs K H ρ l vs → textsOf l = some ss → vs = (ss.map T).map V.str
  | [], vs, ss, r, h => by
    rw [rvs_nil] at r
    subst r
    cases h
    rfl
  | d :: l, vs, ss, r, h => by
    rw [rvs_cons] at r
    obtain ⟨v, t, rfl, r1, r2⟩ := r
    unfold textsOf at h
    rw [List.mapM_cons] at h
    cases d with
    | str b =>
      rw [rv_str] at r1
      subst r1
      cases e : textsOf l with
      | none => unfold textsOf at e; simp only [e] at h; cases h
      | some cs =>
        have e' := e
        unfold textsOf at e
        simp only [e] at h
        cases h
        rw [texts_rv r2 e']
        rfl
    | _ => cases h
/-- sep.join(texts) -/
def joinT (sep : Tx) : List Tx → Tx
  | [] => []
  | [x] => x
  | x :: y :: r => x ++ (sep ++ joinT sep (y :: r))
theorem join_T (sep : Tx) : ∀ ss : List Tx, Txt.join (T sep) (ss.map T) = T (joinT sep ss) := by
  intro ss
  rw [TL.join_eq]
  induction ss with
  | nil => rfl
  | cons x r ih =>
    cases r with
    | nil => rfl
    | cons y r =>
      show T x ++ T sep ++ Str.join (T sep) ((y :: r).map T) = T (x ++ (sep ++ joinT sep (y :: r)))
      rw [ih, T_app, T_app, List.append_assoc]
def fJoin : MV → List MV → Hm → R MV
  | .str sep, [.ref i], M => match M[i]? with
    | some (.lst l) => (match textsOf l with
      | some ss => if (ss.map (·.length)).sum + ss.length * sep.length ≤ SL then .ok (.str (joinT sep ss)) M else .bad
      | none => .bad)
    | _ => .bad
  | _, _, _ => .bad
theorem sim_join {C : Cfg} : SimM C fJoin (fun x xs H Q => ∃ a p, ∃ ys : List Str, x = .str a ∧ xs = [.ref p] ∧ (SqL C.K H p (ys.map V.str) ∨ SqT C.K H p (ys.map V.str)) ∧ (ys.map (·.length)).sum + ys.length * a.length ≤ 16777216 ∧ Q (.str (Txt.join a ys)) H) := by
  intro ρ H M d ds x xs Q G rh rx rxs p
  unfold fJoin at p
  split at p
  · obtain ⟨v, rfl, r⟩ := one_rv rxs
    rw [rv_str] at rx
    subst rx
    rw [rv_ref] at r
    obtain ⟨a, ha, rfl⟩ := r
    split at p
    · rename_i l hm
      obtain ⟨ys, q1, q2⟩ := rh.at hm ha
      split at p
      · rename_i ss hs
        split at p
        · rename_i hl
          refine ⟨_, a, ss.map T, rfl, rfl, .inl ?_, ?_, ?_⟩
          · rw [← texts_rv q2 hs]; exact SqL.of q1
          · rw [List.map_map, List.length_map, T_len]
            have : ((fun x => Str.length x) ∘ T) = fun s : Tx => s.length := by
              funext s; exact T_len s
            rw [this]
            exact hl
          · rw [join_T]
            exact p.val rh (rv_str.mpr rfl)
        · exact p.elim
      · exact p.elim
    · exact p.elim
  · exact p.elim
/-- s.find(t, i) -/
def fFind3 : MV → List MV → Hm → R MV
  | .str a, [.str b, .int i], M => .ok (.int (Txt.find3 (T a) (T b) i)) M
  | _, _, _ => .bad
theorem sim_find3 {C : Cfg} : SimM C fFind3 (fun x xs H Q => ∃ (a b : Str) (i : Int), x = .str a ∧ xs = [.str b, .int i] ∧ Q (.int (Txt.find3 a b i)) H) := by
  intro ρ H M d ds x xs Q G rh rx rxs p
  unfold fFind3 at p
  split at p
  · obtain ⟨v, w, rfl, r1, r2⟩ := two_rv rxs
    rw [rv_str] at rx r1
    rw [rv_int] at r2
    subst rx; subst r1; subst r2
    exact ⟨_, _, _, rfl, rfl, p.val rh (rv_int.mpr rfl)⟩
  · exact p.elim
/-- no sign in front -/
def noSign : Tx → Bool
  | c :: _ => !(c == 43) && !(c == 45)
  | [] => true
/-- s.zfill(n), s without a sign in front -/
def fZfill : MV → List MV → Hm → R MV
  | .str a, [.int i], M => if PadOk i && noSign a then .ok (.str (List.replicate (i.toNat - a.length) 48 ++ a)) M else .bad
  | _, _, _ => .bad
theorem zfill_T {a : Tx} {i : Int} (h : noSign a = true) : Txt.zfill (T a) i = T (List.replicate (i.toNat - a.length) 48 ++ a) := by
  have hl := T_len a
  unfold Txt.zfill
  split
  · rename_i hi
    have : i.toNat - a.length = 0 := by rw [hl] at hi; omega
    rw [this]
    rfl
  · have key : PySem.zfilled (T a) (i.toNat - (T a).length) = Builtin.Str.padded (T a) (i.toNat - (T a).length) 0 48 := by
      unfold PySem.zfilled
      have e : (T a).cps[0]? = a[0]? := by
        show a.toArray[0]? = a[0]?
        simp
      rw [e]
      cases a with
      | nil => rfl
      | cons c r =>
        simp only [noSign, Bool.and_eq_true, Bool.not_eq_true', beq_eq_false_iff_ne] at h
        show (match (some c : Option Nat) with | some 43 | some 45 => _ | _ => _) = _
        split
        · rename_i q; cases q; exact absurd rfl h.1
        · rename_i q; cases q; exact absurd rfl h.2
        · rfl
    rw [key, hl]
    show Str.mk (Array.replicate _ 48 ++ a.toArray ++ Array.replicate 0 48) = Str.mk _
    congr 1
    simp
theorem sim_zfill {C : Cfg} : SimM C fZfill (fun x xs H Q => ∃ (a : Str) (i : Int), x = .str a ∧ xs = [.int i] ∧ PadOk i = true ∧ Q (.str (Txt.zfill a i)) H) := by
  intro ρ H M d ds x xs Q G rh rx rxs p
  unfold fZfill at p
  split at p
  · obtain ⟨v, rfl, r⟩ := one_rv rxs
    rw [rv_str] at rx
    rw [rv_int] at r
    subst rx; subst r
    split at p
    · rename_i a i h
      rw [Bool.and_eq_true] at h
      refine ⟨_, _, rfl, rfl, h.1, ?_⟩
      rw [zfill_T h.2]
      exact p.val rh (rv_str.mpr rfl)
    · exact p.elim
  · exact p.elim
/-! ### what is written -/
section
variable {X : Cx} {C : Cfg} {W : WX}
theorem m_globE {x : Str} {d : MV} {pos : Pos} (h : ∃ v u, X.mg x = some u ∧ RelV v u ∧ ∀ H ρ, RV C.K H ρ d v) (hg : Gl X x := by rfl) (hd : (x == ("__debug__" : Str)) = false := by decide) : PE X (.Name x pos) (tE C W (eC d)) := by
  obtain ⟨v, u, h1, h2, h3⟩ := h
  exact m_glob h1 h2 h3 hg hd
end

/-! ### what is walked: texts, ranges -/
section
variable {X : Cx} {C : Cfg} {W : WX}
theorem itok_str {s : Tx} {ρ : List Addr} {H : Hp} : ItOk C H ρ (nT (s.map fun c => .str [c])) (Its (T s)) := by
  refine ⟨fun ρ2 H2 M k e rh q => ?_, fun ρ2 H2 M k x e rh q => ?_, fun ρ2 H2 M k x v H' e rh q y => ?_⟩
  · have := List.getElem?_eq_none_iff.mp (Option.some.inj q)
    show (T s).cps.size ≤ k
    rw [show (T s).cps.size = s.length from T_len s]
    simpa using this
  · have := (List.getElem?_eq_some_iff.mp (Option.some.inj q)).1
    show k < (T s).cps.size
    rw [show (T s).cps.size = s.length from T_len s]
    simpa using this
  · obtain ⟨rfl, c, hc, rfl⟩ := y
    have q := Option.some.inj q
    rw [List.getElem?_map] at q
    have hc' : s[k]? = some c := by
      have : (T s).cps[k]? = s[k]? := by
        show s.toArray[k]? = s[k]?
        simp
      rw [← this]; exact hc
    rw [hc'] at q
    cases q
    exact ⟨Ext.refl, rh, rv_str.mpr rfl⟩
theorem mi_str {tg l : Expr} {l' : Fe} (hl : PE X l (tE C W l')) : PI X tg l (tIt C W (iS l')) := by
  refine PI.imp (pi_str hl) fun σ H Q h => ?_
  obtain ⟨ρ, M, env, rh, re, p⟩ := h
  refine ⟨ρ, M, env, rh, re, p.bind.imp (fun d M1 ρ1 H1 e1 rh1 p2 v rv => ?_) (fun _ _ _ _ _ _ q => q)⟩
  cases d with
  | str s =>
    rw [rv_str] at rv
    subst rv
    exact ⟨_, rfl, p2.now rh1 _ itok_str⟩
  | _ => exact p2.elim
theorem itok_rng {lo : Int} {n : Nat} {ρ : List Addr} {H : Hp} : ItOk C H ρ (nR lo 1 n) (Itr lo n) := by
  refine ⟨fun ρ2 H2 M k e rh q => ?_, fun ρ2 H2 M k x e rh q => ?_, fun ρ2 H2 M k x v H' e rh q y => ?_⟩
  · have q := Option.some.inj q
    by_cases h : k < n
    · rw [if_pos h] at q; cases q
    · exact Nat.le_of_not_lt h
  · have q := Option.some.inj q
    by_cases h : k < n
    · exact h
    · rw [if_neg h] at q; cases q
  · obtain ⟨rfl, rfl⟩ := y
    have q := Option.some.inj q
    by_cases h : k < n
    · rw [if_pos h] at q
      cases q
      exact ⟨Ext.refl, rh, rv_int.mpr (by rw [Int.mul_one])⟩
    · rw [if_neg h] at q; cases q
theorem itok_rngC {lo c : Int} {n : Nat} {ρ : List Addr} {H : Hp} : ItOk C H ρ (nR lo c n) (Itc lo c n) := by
  refine ⟨fun ρ2 H2 M k e rh q => ?_, fun ρ2 H2 M k x e rh q => ?_, fun ρ2 H2 M k x v H' e rh q y => ?_⟩
  · have q := Option.some.inj q
    by_cases h : k < n
    · rw [if_pos h] at q; cases q
    · exact Nat.le_of_not_lt h
  · have q := Option.some.inj q
    by_cases h : k < n
    · exact h
    · rw [if_neg h] at q; cases q
  · obtain ⟨rfl, rfl⟩ := y
    have q := Option.some.inj q
    by_cases h : k < n
    · rw [if_pos h] at q
      cases q
      exact ⟨Ext.refl, rh, rv_int.mpr rfl⟩
    · rw [if_neg h] at q; cases q
/-- within 2 ^ 62 -/
def in62 (i : Int) : Bool := decide (i.natAbs < 4611686018427387904)
theorem in62_le {i : Int} (h : in62 i = true) : -(2 ^ 62) ≤ i ∧ i < 2 ^ 62 := by
  have h' : i.natAbs < 4611686018427387904 := of_decide_eq_true h
  have e : (2 : Int) ^ 62 = 4611686018427387904 := by decide +kernel
  rw [e]
  omega
def rg1 : List MV → Hm → R (Ni × Nat)
  | [.int j], M => if in62 j then .ok (nR 0 1 j.toNat, j.toNat + 1) M else .bad
  | _, _ => .bad
def rg2 : List MV → Hm → R (Ni × Nat)
  | [.int i, .int j], M => if in62 i && in62 j then .ok (nR i 1 (j - i).toNat, (j - i).toNat + 1) M else .bad
  | _, _ => .bad
/-- range(i, j, c) -/
def rg3 : List MV → Hm → R (Ni × Nat)
  | [.int i, .int j, .int c], M => if decide (c ≠ 0) && decide (c.natAbs < 1073741824) && Builtin.Range.small i j c && decide (0 ≤ Builtin.Range.rangeSize i j c) then .ok (nR i c (Builtin.Range.rangeSize i j c).toNat, (Builtin.Range.rangeSize i j c).toNat + 1) M else .bad
  | _, _ => .bad
def iRg (f : List MV → Hm → R (Ni × Nat)) (t : Fa) : Fi := fun env M => (t env M).bind fun xs M1 => f xs M1
theorem mi_range1 {tg a : Expr} {t' : Fa} {p pos : Pos} (hm : X.mg "range" = none) (ha : PA X [a] (tA C W t')) (hg : Gl X "range" := by rfl) (hs : starEach [a] X.env = [(false, eval a X.env)] := by rfl) : PI X tg (.Call (.Name "range" p) [a] [] pos) (tIt C W (iRg rg1 t')) := by
  refine PI.imp (pi_range1 hg hm ha hs) fun σ H Q h => ?_
  obtain ⟨ρ, M, env, rh, re, p⟩ := h
  refine ⟨ρ, M, env, rh, re, p.bind.imp (fun ds M1 ρ1 H1 e1 rh1 p2 vs rvs => ?_) (fun _ _ _ _ _ _ q => q)⟩
  unfold rg1 at p2
  split at p2
  · obtain ⟨v, rfl, r⟩ := one_rv rvs
    rw [rv_int] at r
    subst r
    split at p2
    · rename_i j hj
      have hj := in62_le hj
      exact ⟨_, rfl, hj.1, hj.2, p2.now rh1 _ itok_rng⟩
    · exact p2.elim
  · exact p2.elim
theorem mi_range2 {tg a b : Expr} {t' : Fa} {p pos : Pos} (hm : X.mg "range" = none) (ha : PA X [a, b] (tA C W t')) (hg : Gl X "range" := by rfl) (hs : starEach [a, b] X.env = [(false, eval a X.env), (false, eval b X.env)] := by rfl) (hs2 : starEach [b] X.env = [(false, eval b X.env)] := by rfl) :
    PI X tg (.Call (.Name "range" p) [a, b] [] pos) (tIt C W (iRg rg2 t')) := by
  refine PI.imp (pi_range2 hg hm ha hs hs2) fun σ H Q h => ?_
  obtain ⟨ρ, M, env, rh, re, p⟩ := h
  refine ⟨ρ, M, env, rh, re, p.bind.imp (fun ds M1 ρ1 H1 e1 rh1 p2 vs rvs => ?_) (fun _ _ _ _ _ _ q => q)⟩
  unfold rg2 at p2
  split at p2
  · obtain ⟨v, w, rfl, r1, r2⟩ := two_rv rvs
    rw [rv_int] at r1 r2
    subst r1; subst r2
    split at p2
    · rename_i i j hj
      rw [Bool.and_eq_true] at hj
      have h1 := in62_le hj.1
      have h2 := in62_le hj.2
      exact ⟨_, _, rfl, ⟨h1.1, h1.2, h2.1, h2.2⟩, p2.now rh1 _ itok_rng⟩
    · exact p2.elim
  · exact p2.elim
theorem mi_range3 {tg a b c : Expr} {t' : Fa} {p pos : Pos} (hm : X.mg "range" = none) (ha : PA X [a, b, c] (tA C W t')) (hg : Gl X "range" := by rfl) (hs : starEach [a, b, c] X.env = (false, eval a X.env) :: starEach [b, c] X.env := by rfl) (hpl : (backTo pos (starEach [b, c] X.env)).any (·.1) = false := by rfl) :
    PI X tg (.Call (.Name "range" p) [a, b, c] [] pos) (tIt C W (iRg rg3 t')) := by
  refine PI.imp (pi_range3 hg hm ha hs hpl) fun σ H Q h => ?_
  obtain ⟨ρ, M, env, rh, re, p⟩ := h
  refine ⟨ρ, M, env, rh, re, p.bind.imp (fun ds M1 ρ1 H1 e1 rh1 p2 vs rvs => ?_) (fun _ _ _ _ _ _ q => q)⟩
  unfold rg3 at p2
  split at p2
  · rw [rvs_cons] at rvs
    obtain ⟨u, t, rfl, r0, rvs⟩ := rvs
    obtain ⟨v, w, rfl, r1, r2⟩ := two_rv rvs
    rw [rv_int] at r0 r1 r2
    subst r0; subst r1; subst r2
    split at p2
    · rename_i i j k hj
      simp only [Bool.and_eq_true, decide_eq_true_eq] at hj
      obtain ⟨⟨⟨a1, a2⟩, b1⟩, c1⟩ := hj
      exact ⟨_, _, _, (Builtin.Range.rangeSize i j k).toNat, rfl, ⟨a1, a2, b1, by omega⟩, p2.now rh1 _ itok_rngC⟩
    · exact p2.elim
  · exact p2.elim
end
end Mi
set_option maxRecDepth 100000
/-! A text's defs, all together; the law's end. -/
namespace Mi
open PySem PySem.Spec PyProof.Rows L2
/-- a def of the text, where it stands -/
structure Ent where
  x : Str
  st : Stmt
  N : List Str
  ps : List Str
  fa : Addr
  fd : FuncData
section
variable (C : Cfg) (P : Program) (w : World) (K : PySem.W.Frag) (mg : Str → Option Value) (base : Heap)
/-- what a body may lean on -/
structure Cl (ent : Nat → Option Ent) (A : Around) (G : Ga) : Prop where
  call : ∀ f e, ent f = some e → Call1 C P w K mg base A G f e.fa
  room : Room 2 A
abbrev Ctx (e : Ent) (cdv : Value) (A : Around) (outer : List PySem.Env) (s : Shared) (H : Hp) (E : XK) : Cx :=
  Bx P w K mg base e.N e.x (defScope e.st) e.fa cdv A outer s H E
/-- e's body does what d says -/
def BodyOk (ent : Nat → Option Ent) (e : Ent) (d : Df) : Prop := ∀ (G : Ga) (cdv : Value) (A : Around) (outer : List PySem.Env) (s : Shared) (H : Hp) (E : XK),
  Cl C P w K mg base ent (Ctx P w K mg base e cdv A outer s H E).A G → PSs (Ctx P w K mg base e cdv A outer s H E) (defBody e.st) (tS C (WB E) (d.bd G))
structure EntOk (ent : Nat → Option Ent) (e : Ent) (d : Df) : Prop where
  fn : Fun K e.x e.x e.st e.fa e.fd
  sc : FnScope e.N e.ps (defScope e.st)
  np : d.np = e.ps.length
  ns : d.ns = e.N.length
  bi : Binds K e.fd e.ps []
  bd : BodyOk C P w K mg base ent e d
end
section
variable {C : Cfg} {P : Program} {w : World} {K : PySem.W.Frag} {mg : Str → Option Value} {base : Heap}
theorem Call1.of {A : Around} {G : Ga} {f k : Nat} {e : Ent} (F : FnOk P w K mg base (L2.CX P w) k e.fa e.fd e.ps (spF C G e.ps.length f)) (hl : ∀ ds M, ds.length ≠ e.ps.length → G f ds M = .bad) (hr : Room k A) (hb : Binds K e.fd e.ps []) (hk : PySem.W.keepIn K (.ref e.fa) = true) :
    Call1 C P w K mg base A G f e.fa := ⟨⟨e.ps.length, hl, k, e.fd, e.ps, F, hr, hb⟩, hk⟩
theorem run_np {tab : Nat → Option Df} {f : Nat} {d : Df} {np : Nat} (h : tab f = some d) (hn : d.np = np) : ∀ (n : Nat) (ds : List MV) (M : Hm), ds.length ≠ np → run tab n f ds M = .bad
  | 0, _, _, _ => rfl
  | n + 1, ds, M, hl => by
    show (match tab f with
      | some d => callD d (run tab n) ds M
      | none => .bad) = _
    rw [h]
    show callD d _ ds M = _
    unfold callD
    rw [if_neg (by rw [hn]; exact hl)]
theorem all_ok {ent : Nat → Option Ent} {tab : Nat → Option Df} (h : ∀ f e, ent f = some e → ∃ d, tab f = some d ∧ EntOk C P w K mg base ent e d) :
    ∀ n f e, ent f = some e → FnOk P w K mg base (L2.CX P w) (n + 2) e.fa e.fd e.ps (spF C (run tab n) e.ps.length f)
  | 0, f, e, _ => ⟨fun vs H Q E q => q.1, fun A outer s H args us vs Q E hr he hb hv hs => by
      obtain ⟨_, ρ, M, ds, _, _, p⟩ := hs
      exact p.elim⟩
  | n + 1, f, e, he => by
    obtain ⟨d, hd, O⟩ := h f e he
    refine fn_mi (G := run tab n) (d := d) O.fn O.sc ⟨O.np, O.ns⟩ (fun ds M => ?_) fun cdv A outer s H E hr => ?_
    · show (match tab f with
        | some d => callD d (run tab n) ds M
        | none => .bad) = _
      rw [hd]
    · refine O.bd (run tab n) cdv A outer s H E ⟨fun g e' he' => ?_, hr.mono (Nat.le_add_left 2 n)⟩
      obtain ⟨d', hd', O'⟩ := h g e' he'
      exact Call1.of (all_ok h n g e' he') (run_np hd' O'.np n) hr O'.bi O'.fn.kp

/-! ### the law -/
/-- the law's promise: of any list of at most 63 numbers -/
def spLaw (K : PySem.W.Frag) : Sp := fun vs H Q _ => ∃ (a : Addr) (ns : List Int), vs = [.ref a] ∧ FzL K H a (ns.map V.int) ∧ ns.length ≤ 63 ∧ (∀ z ∈ ns, Builtin.Int.intBits z ≤ 1048576) ∧ ∀ H', Q (.bl true) H'
theorem rvs_ints {H : Hp} {ρ : List Addr} : ∀ ns : List Int, RVs K H ρ (ns.map MV.int) (ns.map V.int)
  | [] => by simp [RVs]
  | n :: ns => by
    rw [List.map_cons, List.map_cons]
    unfold RVs
    exact ⟨_, _, rfl, by unfold RV; rfl, rvs_ints ns⟩
/-- what a law has to keep -/
def Keeps (tab : Nat → Option Df) (n f : Nat) : Prop := ∀ ns : List Int, ns.length ≤ 63 → (∀ z ∈ ns, Builtin.Int.intBits z ≤ 1048576) → ∃ M, run tab n f [.rol (ns.map MV.int)] [] = .ok (.bl true) M
theorem law_ok {tab : Nat → Option Df} {n f k : Nat} {fa : Addr} {fd : FuncData} {x : Str} (hk : Keeps tab n f) (F : FnOk P w K mg base (L2.CX P w) k fa fd [x] (spF C (run tab n) 1 f)) (hK : C.K = K) : FnOk P w K mg base (L2.CX P w) k fa fd [x] (spLaw K) := by
  refine F.imp fun vs H Q E h => ?_
  obtain ⟨a, ns, rfl, hF, hl, hb, q⟩ := h
  obtain ⟨M, e⟩ := hk ns hl hb
  refine ⟨rfl, [], [], [.rol (ns.map MV.int)], ?_, ?_, ?_⟩
  · exact ⟨rfl, List.nodup_nil, fun i o h => by simp at h⟩
  · rw [hK]
    unfold RVs
    refine ⟨_, _, rfl, ?_, by unfold RVs; rfl⟩
    unfold RV
    exact ⟨a, _, rfl, hF, rvs_ints ns⟩
  · rw [e]
    intro ρ' H' e' rh' v rv
    have : v = .bl true := by unfold RV at rv; exact rv
    rw [this]
    exact q H'
theorem fz_of {H : Hp} {a : Addr} {xs : List V} (hO : Only H) (h : SqL K H a xs) : FzL K H a xs := by
  rcases h with h | h
  · rcases h with h | ⟨o, h⟩
    · rcases hO a with z | ⟨o, ys, z⟩
      · rw [z] at h; cases h
      · rw [z] at h; cases h
    · exact .inl ⟨o, h⟩
  · exact .inr h
/-- the law's end -/
theorem walk_mi {l : PySem.W.OpenLaw} {k : Nat} {q : Program} {loose : List Str} {XP : (Str → Option Value) → Heap → Prop} {YP : World → Heap → Prop} {d : DefRec} {K : Params → PySem.W.Frag} {x : Str}
    (hn : l.most = some 63) (hdf : d.params.defaults = []) (hr : Room k callerA)
    (hY : ∀ (w : World) (h : Heap), YP w h → (K w.params).In h)
    (F : ∀ (w : World) (mg : Str → Option Value) (fa : Addr) (h : Heap), (K w.params).In h → h.Ns mainGlobals mg → XP mg h → mg d.name = some (.ref fa) →
      ∃ fd : FuncData, (∀ (s : Shared) (u : Value), BindsTo s fd ⟨[u], []⟩ [(x, u)]) ∧
        ∀ base : Heap, (K w.params).In base → base.Ns mainGlobals mg → FnOk l.prog w (K w.params) mg base (L2.CX l.prog w) k fa fd [x] (spLaw (K w.params))) :
    PySem.W.WalkO q loose XP YP l.row.toRowW d [] (fun f vs => PySem.call f vs) := by
  refine Att.attach_callB hn hdf fun w s₀ s₁ mg mb fa o pm cd doc a vs ns G Y ho hd hcd hmg hobj hints hlen hbits hg => ?_
  have KX := hY w _ Y
  obtain ⟨fd, hb, hF⟩ := F w mg fa _ KX G.T.g G.X hmg
  refine law_call KX G.T.g G.T.b G.T.builtins G.T.nolimit hg hobj hints (Nat.le_trans hlen (by decide)) hr hF hb (fun H hO hS => ⟨a, ns, rfl, fz_of hO hS, hlen, hbits, fun _ => rfl⟩) fun H e s' => ?_
  exact fun ⟨_, _, _, _, _, _, _, _, _, _, _, _, z⟩ => z
end
end Mi
set_option maxRecDepth 100000
/-! Further constructs. -/
namespace Mi
open PySem PySem.Spec PyProof.Rows L2
/-- a store o[i] = d into a list -/
def fSetL : MV → MV → MV → Hm → R MV
  | .ref k, .int i, d, M => match M[k]? with
    | some (.lst l) => (match ixN l.length i with
      | some j => .ok .non (M.set k (.lst (l.set j d)))
      | none => .bad)
    | _ => .bad
  | _, _, _, _ => .bad
/-- the target o[i] -/
def gIx (f : MV → MV → MV → Hm → R MV) (a b : Fe) : Ftg := fun d env M => (a env M).bindN fun x M1 => (b env M1).bindN fun y M2 => (f x y d M2).bindN fun _ M3 => .ok env M3
section
variable {X : Cx} {C : Cfg} {W : WX}
theorem mg_ixL {a b : Expr} {a' b' : Fe} {vs : List Nat} {pos : Pos} (ha : PE X a (tE C W0 a')) (hb : PE X b (tE C W0 b'))
    (hs : ∀ v, assign (.Subscript a b pos) X.env v = (do
      let ov ← holding [v] (eval a X.env)
      let iv ← holding [v, ov] (eval b X.env)
      standAt pos
      holding [v, ov, iv] (setItem ov iv v)
      release [v, ov, iv] []) := by intro _; rfl) : PG X (.Subscript a b pos) (tGt C vs (gIx fSetL a' b')) := by
  refine PG.imp (pg_sub ha hb set_list hs) fun v σ H Q h => ?_
  obtain ⟨ρ, M, env, d, G, rh, re, rv, p⟩ := h
  refine ⟨ρ, M, env, rh, re, p.bindN.imp (fun x M1 ρ1 H1 e1 rh1 p2 o ro => ?_) (fun _ _ _ _ _ _ z => z.elim)⟩
  refine ⟨ρ1, M1, env, rh1, re.mono e1, p2.bindN.imp (fun y M2 ρ2 H2 e2 rh2 p3 i ri => ?_) (fun _ _ _ _ _ _ z => z.elim)⟩
  have p4 := p3.bindN
  have rv2 := (rv.mono e1).mono e2
  have ro2 := ro.mono e2
  have re2 := (re.mono e1).mono e2
  unfold fSetL at p4
  split at p4
  · rw [rv_ref] at ro2; rw [rv_int] at ri; subst ri
    obtain ⟨a, ha, rfl⟩ := ro2
    split at p4
    · rename_i l hm
      obtain ⟨xs, q1, q2⟩ := rh2.at hm ha
      split at p4
      · rename_i j hj
        refine ⟨a, xs, _, j, rfl, rfl, q1, by rw [q2.len]; exact hj, ?_⟩
        obtain ⟨o, hm, ro⟩ := rh2.there ha
        obtain ⟨u, hu, mu⟩ := ro.mut
        have e : Ext C.K ρ2 ρ2 H2 (upd H2 a (.lst (xs.set j v))) := Ext.wr (C := C) hu mu (List.mem_of_getElem? ha)
        have rh3 := rh2.set (ob := .lst (_ : List MV)) ha ⟨xs.set j v, upd_same, (q2.set j rv2).mono e⟩
        exact (p4 _ _ e rh3).now rh3 σ (re2.mono e) rfl
      · exact p4.elim
    · exact p4.elim
  · exact p4.elim
/-! ### what is walked, of any kind -/
theorem PI.cases {tg l : Expr} {l' : Fe} {f : Fi} (hC : C.K = X.K) (hl : PE X l (tE C W l')) (h : ∀ env M, (f env M = iL l' env M) ∨ (f env M = iT l' env M) ∨ (f env M = iS l' env M)) : PI X tg l (tIt C W f) :=
  ⟨fun pins s σ H R I q => by
    obtain ⟨ρ, M, env, rh, re, p⟩ := q
    rcases h env M with e | e | e
    · exact (mi_list hC hl).run pins s σ H R I ⟨ρ, M, env, rh, re, by rw [← e]; exact p⟩
    · exact (mi_tup hC hl).run pins s σ H R I ⟨ρ, M, env, rh, re, by rw [← e]; exact p⟩
    · exact (mi_str hl).run pins s σ H R I ⟨ρ, M, env, rh, re, by rw [← e]; exact p⟩⟩
/-- a list, a tuple, a text -/
def iA (a : Fe) : Fi := fun env M => (a env M).bind fun x M1 => match x with
  | .ref i => match M1[i]? with
    | some (.lst l) => .ok (nL i, l.length + 1) M1
    | _ => .bad
  | .rol l => .ok (nT l, l.length + 1) M1
  | .tup l => .ok (nT l, l.length + 1) M1
  | .str s => .ok (nT (s.map fun c => .str [c]), s.length + 1) M1
  | _ => .bad
theorem mi_any {tg l : Expr} {l' : Fe} (hC : C.K = X.K) (hl : PE X l (tE C W l')) : PI X tg l (tIt C W (iA l')) := PI.cases hC hl fun env M => by
  unfold iA iL iT iS
  cases l' env M with
  | ok d M1 => cases d <;> first | exact .inl rfl | exact .inr (.inl rfl) | exact .inr (.inr rfl)
  | exc x M1 => exact .inl rfl
  | bad => exact .inl rfl
/-! ### x += y -/
def fIAdd : MV → MV → Hm → R MV
  | .int i, .int j, M => .ok (.int (i + j)) M
  | .str s, .str t, M => if s.length + t.length ≤ SL then .ok (.str (s ++ t)) M else .bad
  | _, _, _ => .bad
def rIAdd : R2 := fun x y H Q => (∃ i j, x = .int i ∧ y = .int j ∧ Q (.int (i + j)) H) ∨ ∃ i j, x = .str i ∧ y = .str j ∧ i.length + j.length ≤ sizeLine ∧ Q (.str (i ++ j)) H
theorem inp_addM : OpR X (inplaceOp .Add) rIAdd := fun pins s σ H x y v u Q I rx ry h => by
  rcases h with ⟨i, j, h1, h2, h3⟩ | h
  · exact iop_add pins s σ H x y v u Q I rx ry ⟨i, j, h1, h2, h3⟩
  · exact iop_add_str pins s σ H x y v u Q I rx ry h
theorem sim_inpAdd {C : Cfg} : Sim2 C fIAdd rIAdd := by
  intro ρ H M d e x y Q G rh rx ry p
  unfold fIAdd at p
  split at p
  · rw [rv_int] at rx ry; subst rx; subst ry
    exact .inl ⟨_, _, rfl, rfl, p.val rh (rv_int.mpr rfl)⟩
  · rw [rv_str] at rx ry; subst rx; subst ry
    split at p
    · rename_i hl
      exact .inr ⟨_, _, rfl, rfl, by rw [T_len, T_len, sizeLine_eq]; exact hl, p.val rh (rv_str.mpr (congrArg V.str (T_app _ _)))⟩
    · exact p.elim
  · exact p.elim
theorem inp_sub : OpR X (inplaceOp .Sub) (rI0 fun i j => .int (i - j)) := iop_sub
end

/-! ### the facts of a text -/
/-- the def st stands at f -/
def FunAt (K : PySem.W.Frag) (x : Str) (st : Stmt) (f : Addr) : Prop := PySem.W.nsIn K mainGlobals x = some (some (.ref f)) ∧ ∃ fd, Fun K x x st f fd
theorem fun_at {K : PySem.W.Frag} {x : Str} {st : Stmt} {f : Addr} {oc : Value} {od an : Option Addr} {osl : Array (Option Value)} {kV doc pm cdv ct : Value} (a : PySem.W.nsIn K mainGlobals x = some (some (.ref f)))
    (l : K.lookup f = some ⟨oc, od, .func (PySem.W.fnOf x x (defArgs st) (defBody st) (defScope st) .none kV doc pm an cdv ct), osl⟩)
    (c : PySem.W.codeIn K cdv x = true) (k : PySem.W.keepIn K (.ref f) = true) : ∃ f, FunAt K x st f := ⟨f, a, _, fun_mk l c k⟩
theorem bind1 {K : PySem.W.Frag} {x p : Str} {st : Stmt} {f : Addr} {fd : FuncData} (F : Fun K x x st f fd)
    (h : ∀ (kV doc pm : Value) (an : Option Addr) (cdv ct : Value) (u : Value), bindArgs (PySem.W.fnOf x x (defArgs st) (defBody st) (defScope st) .none kV doc pm an cdv ct) ⟨[u], []⟩ = pure [(p, u)]) (s : Shared) (u : Value) : BindsTo s fd ⟨[u], []⟩ [(p, u)] := by
  obtain ⟨⟨oc, od, kV, doc, pm, an, cdv, ct, osl, rfl, lk, hcd⟩, _⟩ := F
  exact .of_eq (h kV doc pm an cdv ct u)
/-- a constant of the module -/
def ConstAt (K : PySem.W.Frag) (mg : Str → Option Value) (x : Str) (d : MV) : Prop := ∃ v u, mg x = some u ∧ RelV v u ∧ ∀ H ρ, RV K H ρ d v
theorem const_int {K : PySem.W.Frag} {h : Heap} {mg : Str → Option Value} {x : Str} {i : Int} {t : Nat} (X : K.In h) (G : h.Ns mainGlobals mg) (a : PySem.W.nsIn K mainGlobals x = some (some (.int i t))) : ConstAt K mg x (.int i) :=
  ⟨.int i, .int i t, PySem.W.mg_of X G a, ⟨t, rfl⟩, fun _ _ => rv_int.mpr rfl⟩
theorem const_str {K : PySem.W.Frag} {h : Heap} {mg : Str → Option Value} {x z : Str} {l : Tx} {t : Nat} (X : K.In h) (G : h.Ns mainGlobals mg) (a : PySem.W.nsIn K mainGlobals x = some (some (.str z t))) (e : z = T l) : ConstAt K mg x (.str l) :=
  ⟨.str z, .str z t, PySem.W.mg_of X G a, ⟨t, rfl⟩, fun _ _ => rv_str.mpr (by rw [e])⟩
theorem const_loose {K : PySem.W.Frag} {h : Heap} {mg : Str → Option Value} {p : Program} {lv : List (Str × PySem.W.WData)} {x : Str} {i : Int} (X : PySem.W.XL p lv mg h) (m : (x, PySem.W.WData.int i) ∈ lv) : ConstAt K mg x (.int i) := by
  obtain ⟨v, h1, h2⟩ := X.2.val _ m
  have h2 : PySem.W.ReadsLit h v (.int i) [] := h2
  cases h2 with
  | int i t => exact ⟨.int i, .int i t, h1, ⟨t, rfl⟩, fun _ _ => rv_int.mpr rfl⟩
/-- isinstance with an own class -/
theorem kit_ref {K : PySem.W.Frag} {C : Addr} {cls : Value} {b : Bool} (hs : cls = .ref C → b = true) (hdct : PySem.W.hasDictIn K C = true) (ht : PySem.W.typeIn K (.ref C) = some (.type "type")) (h4 : PySem.W.subIn K cls (.ref C) = some b) : PySem.W.kitOne K cls (.ref C) = some b := by
  unfold PySem.W.kitOne
  by_cases e : cls = .ref C
  · rw [if_pos (by rw [e]; exact beq_self_eq_true _), hs e]
  · rw [if_neg (fun z => e (beq_iff_eq.mp z))]
    have hc : (PySem.W.clsIn K C).isSome = true := by
      unfold PySem.W.hasDictIn at hdct
      cases q : PySem.W.clsIn K C with
      | none => rw [q] at hdct; cases hdct
      | some c => rfl
    show (if ((PySem.W.clsIn K C).isSome && PySem.W.typeIn K (.ref C) == some (.type "type")) = true then PySem.W.subIn K cls (.ref C) else none) = some b
    rw [hc, ht, if_pos (by decide)]
    exact h4
end Mi
set_option maxRecDepth 100000
/-! What must hold ahead of a piece: the small language's own logic. No program here. -/
namespace Mi
/-- what holds by sight, but not to be seen through -/
theorem nr {P Q : Prop} (h : P = Q) : P = Q := h
@[simp] theorem SL_eq : SL = 16777216 := rfl
section
variable {α β : Type}
variable {Q : α → Hm → Prop} {Qb : β → Hm → Prop} {E : MX → Hm → Prop} {M : Hm} {env : Env}
end
def rdO {α : Type} (o : Option α) (F : α → Prop) : Prop := match o with | some d => F d | none => False
@[simp ↓] theorem rdO_some {α : Type} {d : α} {F : α → Prop} : rdO (some d) F = F d := nr rfl
@[simp ↓] theorem rdO_none {α : Type} {F : α → Prop} : rdO none F = False := nr rfl
theorem rdO_of {α : Type} {o : Option α} {d : α} (h : o = some d) (F : α → Prop) : rdO o F = F d := by rw [h]; rfl
def rdE : Env → Nat → (MV → Prop) → Prop
  | some d :: _, 0, F => F d
  | _ :: env, n + 1, F => rdE env n F
  | _, _, _ => False
@[simp ↓] theorem rdE_0 {d : MV} {env : Env} {F : MV → Prop} : rdE (some d :: env) 0 F = F d := nr rfl
@[simp ↓] theorem rdE_s {d : Option MV} {env : Env} {n : Nat} {F : MV → Prop} : rdE (d :: env) (n + 1) F = rdE env n F := by cases d <;> rfl
theorem rdE_eq {F : MV → Prop} : ∀ (env : Env) (i : Nat), rdE env i F = (match env[i]? with | some (some d) => F d | _ => False)
  | [], i => by cases i <;> rfl
  | none :: env, 0 => rfl
  | some d :: env, 0 => rfl
  | none :: env, n + 1 => rdE_eq env n
  | some d :: env, n + 1 => rdE_eq env n
def rdL (M : Hm) (k : Nat) (F : List MV → Prop) : Prop := match M[k]? with | some (.lst l) => F l | _ => False
theorem rdL_of {M : Hm} {k : Nat} {l : List MV} (h : M[k]? = some (.lst l)) (F : List MV → Prop) : rdL M k F = F l := by
  unfold rdL
  rw [h]
@[simp ↓] theorem rdL_last {M : Hm} {l : List MV} {F : List MV → Prop} : rdL (M ++ [.lst l]) M.length F = F l := rdL_of (by simp) F
theorem rdL_set {M : Hm} {k : Nat} {u : MO} (h : M[k]? = some u) (l : List MV) (F : List MV → Prop) : rdL (M.set k (.lst l)) k F = F l :=
  rdL_of (by rw [List.getElem?_set_self (List.getElem?_eq_some_iff.mp h).1]) F
theorem rdL_ne {M : Hm} {k a : Nat} {o : MO} (h : a ≠ k) (F : List MV → Prop) : rdL (M.set a o) k F = rdL M k F := by
  unfold rdL
  rw [List.getElem?_set_ne h]
def rdI {α : Type} (l : List α) (i : Int) (F : α → Prop) : Prop := rdO (L2.atI l i) F
def rdN {α : Type} : List α → Nat → (α → Prop) → Prop
  | x :: _, 0, F => F x
  | _ :: l, n + 1, F => rdN l n F
  | [], _, _ => False
@[simp ↓] theorem rdN_0 {α : Type} {x : α} {l : List α} {F : α → Prop} : rdN (x :: l) 0 F = F x := nr rfl
@[simp ↓] theorem rdN_s {α : Type} {x : α} {l : List α} {n : Nat} {F : α → Prop} : rdN (x :: l) (n + 1) F = rdN l n F := nr rfl
theorem rdN_eq {α : Type} {F : α → Prop} : ∀ (l : List α) (i : Nat), rdN l i F = (match l[i]? with | some d => F d | none => False)
  | [], i => by cases i <;> rfl
  | x :: l, 0 => rfl
  | x :: l, n + 1 => rdN_eq l n
theorem rdI_of {α : Type} {l : List α} {i : Int} {d : α} (h : L2.atI l i = some d) (F : α → Prop) : rdI l i F = F d := by
  unfold rdI
  rw [h]
  rfl
def rdX (n : Nat) (i : Int) (F : Nat → Prop) : Prop := rdO (L2.ixN n i) F
def rdT (M : Hm) (x : MV) (F : Bool → Prop) : Prop := match truth M x with | some k => F k | none => False
section
variable {M : Hm} {F : Bool → Prop}
@[simp ↓] theorem rdT_non : rdT M .non F = F false := nr rfl
@[simp ↓] theorem rdT_bl {b : Bool} : rdT M (.bl b) F = F b := nr rfl
@[simp ↓] theorem rdT_int {i : Int} : rdT M (.int i) F = F (i != 0) := nr rfl
@[simp ↓] theorem rdT_str {s : Tx} : rdT M (.str s) F = (s.length ≤ SL ∧ F (!s.isEmpty)) := by
  show (match (if s.length ≤ SL then some (!s.isEmpty) else none) with | some k => F k | none => False) = _
  by_cases h : s.length ≤ SL
  · rw [if_pos h]; simp only [h, true_and]
  · rw [if_neg h]; simp only [h, false_and]
@[simp ↓] theorem rdT_tup {l : List MV} : rdT M (.tup l) F = F (!l.isEmpty) := nr rfl
@[simp ↓] theorem rdT_rol {l : List MV} : rdT M (.rol l) F = F (!l.isEmpty) := nr rfl
theorem rdT_lst {k : Nat} {l : List MV} (h : M[k]? = some (.lst l)) : rdT M (.ref k) F = F (!l.isEmpty) := by
  unfold rdT truth
  simp [h]
end
def rdTy (M : Hm) (ty : Ty) (x : MV) (P : Prop) : Prop := if isTy M ty x then P else False
@[simp ↓] theorem rdTy_str {M : Hm} {s : Tx} {P : Prop} : rdTy M .str (.str s) P = P := if_pos rfl
@[simp ↓] theorem rdTy_list {M : Hm} {k : Nat} {P : Prop} : rdTy M .list (.ref k) P = rdL M k fun _ => P := by
  unfold rdTy rdL
  show (if (match M[k]? with | some (.lst _) => true | _ => false) = true then P else False) = _
  cases M[k]? with
  | none => rfl
  | some o => cases o <;> rfl
theorem set_get {M : Hm} {a : Nat} {u : MO} (h : M[a]? = some u) (o : MO) : (M.set a o)[a]? = some o := by
  rw [List.getElem?_set_self (List.getElem?_eq_some_iff.mp h).1]
theorem atI_nat {α : Type} (l : List α) (i : Nat) : L2.atI l (i : Int) = l[i]? := by
  unfold L2.atI L2.ixN
  rw [if_pos (by omega)]
  by_cases h : i < l.length
  · rw [if_pos (by omega)]
    rfl
  · rw [if_neg (by omega)]
    show none = _
    rw [List.getElem?_eq_none (by omega)]
theorem atI_lit {α : Type} (l : List α) (i : Nat) : L2.atI l (@OfNat.ofNat Int i instOfNat) = l[i]? := atI_nat l i
theorem atI_neg1 {α : Type} (l : List α) : L2.atI l (-1) = l[l.length - 1]? := by
  unfold L2.atI L2.ixN
  rw [if_neg (by omega)]
  by_cases h : l = []
  · subst h
    rfl
  · have hp : 0 < l.length := List.length_pos_iff.mpr h
    rw [if_pos (by omega)]
    show l[((-1 : Int) + l.length).toNat]? = _
    congr 1
    omega
theorem ixN_nat {n i : Nat} : L2.ixN n (i : Int) = if i < n then some i else none := by
  unfold L2.ixN
  rw [if_pos (by omega)]
  by_cases h : i < n
  · rw [if_pos (by omega), if_pos h, Int.toNat_natCast]
  · rw [if_neg (by omega), if_neg h]
theorem ixN_lit {n i : Nat} : L2.ixN n (@OfNat.ofNat Int i instOfNat) = if i < n then some i else none := ixN_nat
@[simp ↓] theorem rdI_lit {α : Type} {l : List α} {i : Nat} {F : α → Prop} : rdI l (no_index (@OfNat.ofNat Int i instOfNat)) F = rdN l i F := by
  unfold rdI rdO
  rw [atI_lit, rdN_eq]
@[simp ↓] theorem rdI_neg1 {α : Type} {l : List α} {F : α → Prop} : rdI l (-1) F = rdO l[l.length - 1]? F := by
  unfold rdI
  rw [atI_neg1]
theorem rdI_nat {α : Type} {l : List α} {i : Nat} {F : α → Prop} : rdI l (i : Int) F = rdO l[i]? F := by
  unfold rdI
  rw [atI_nat]
@[simp ↓] theorem rdX_lit {n i : Nat} {F : Nat → Prop} : rdX n (no_index (@OfNat.ofNat Int i instOfNat)) F = (i < n ∧ F i) := by
  unfold rdX rdO
  rw [ixN_lit]
  by_cases h : i < n
  · rw [if_pos h]; simp only [h, true_and]
  · rw [if_neg h]; simp only [h, false_and]
/-- a choice that is not to be seen through -/
structure ifB (k : Bool) (A B : Prop) : Prop where
  t : k = true → A
  f : k = false → B
theorem ifB_eq {k : Bool} {A B : Prop} : ifB k A B = if k then A else B := by
  cases k
  · exact propext ⟨fun h => h.f rfl, fun h => ⟨fun z => (Bool.noConfusion z), fun _ => h⟩⟩
  · exact propext ⟨fun h => h.t rfl, fun h => ⟨fun _ => h, fun z => (Bool.noConfusion z)⟩⟩
@[simp ↓] theorem ifB_true {k : Bool} {A B : Prop} (h : k = true) : ifB k A B = A := by rw [ifB_eq, h]; rfl
@[simp ↓] theorem ifB_false {k : Bool} {A B : Prop} (h : k = false) : ifB k A B = B := by rw [ifB_eq, h]; rfl
theorem ifB_p {c : Prop} [Decidable c] {A B : Prop} (h1 : c → A) (h2 : ¬ c → B) : ifB (decide c) A B := ⟨fun h => h1 (of_decide_eq_true h), fun h => h2 (of_decide_eq_false h)⟩
theorem ite_and {c : Prop} [Decidable c] {A : Prop} : (if c then A else False) = (c ∧ A) := by
  by_cases h : c
  · rw [if_pos h]; simp only [h, true_and]
  · rw [if_neg h]; simp only [h, false_and]
section
variable {Q : MV → Hm → Prop} {Qb : Bool → Hm → Prop} {Ql : List MV → Hm → Prop} {E : MX → Hm → Prop} {M : Hm} {env : Env} {a b : Fe} {t : Fa} {c d : Ft}
end

section
variable {Q : Env → Hm → Prop} {E : MX → Hm → Prop} {M : Hm} {env : Env}
section
variable {Q : MV → Hm → Prop}
end
end

section
variable {Q : O → Env → Hm → Prop} {E : MX → Env → Hm → Prop} {M : Hm} {env : Env} {a b : Fs} {e : Fe} {c : Ft}
end
section
variable {Q : Ni × Nat → Hm → Prop} {E : MX → Hm → Prop} {M : Hm} {env : Env} {a : Fe} {t : Fa}
def rdIt (M : Hm) (x : MV) (F : Ni × Nat → Prop) : Prop := match x with
  | .ref i => rdL M i fun l => F (nL i, l.length + 1)
  | .rol l => F (nT l, l.length + 1)
  | .tup l => F (nT l, l.length + 1)
  | .str s => F (nT (s.map fun c => .str [c]), s.length + 1)
  | _ => False
@[simp ↓] theorem rdIt_ref {i : Nat} {F : Ni × Nat → Prop} : rdIt M (.ref i) F = rdL M i fun l => F (nL i, l.length + 1) := nr rfl
@[simp ↓] theorem rdIt_rol {l : List MV} {F : Ni × Nat → Prop} : rdIt M (.rol l) F = F (nT l, l.length + 1) := nr rfl
@[simp ↓] theorem rdIt_tup {l : List MV} {F : Ni × Nat → Prop} : rdIt M (.tup l) F = F (nT l, l.length + 1) := nr rfl
@[simp ↓] theorem rdIt_str {s : Tx} {F : Ni × Nat → Prop} : rdIt M (.str s) F = F (nT (s.map fun c => .str [c]), s.length + 1) := nr rfl
end
section
variable {Q : MV → Hm → Prop} {E : MX → Hm → Prop} {M : Hm} {env : Env} {e : Fe} {c : Ft} {g : Ftg} {it : Fi} {vs : List Nat}
end
theorem w_run_mono {tab : Nat → Option Df} : True := trivial
/-- what stood stands, but at a -/
def But (a : Nat) (M M' : Hm) : Prop := ∀ i o, i ≠ a → M[i]? = some o → M'[i]? = some o
def Pre (M M' : Hm) : Prop := ∀ (i : Nat) o, M[i]? = some o → M'[i]? = some o
theorem Pre.rfl {M : Hm} : Pre M M := fun _ _ h => h
theorem Pre.trans {M M1 M2 : Hm} (h : Pre M M1) (h2 : Pre M1 M2) : Pre M M2 := fun i o q => h2 i o (h i o q)
theorem Pre.app {M l : Hm} : Pre M (M ++ l) := fun i o h => by
  rw [List.getElem?_append_left (List.getElem?_eq_some_iff.mp h).1]
  exact h
theorem Pre.but {a : Nat} {M M' : Hm} (h : Pre M M') : But a M M' := fun i o _ q => h i o q
theorem But.rfl {a : Nat} {M : Hm} : But a M M := fun _ _ _ h => h
theorem But.trans {a : Nat} {M M1 M2 : Hm} (h : But a M M1) (h2 : But a M1 M2) : But a M M2 := fun i o n q => h2 i o n (h i o n q)
theorem But.set {a : Nat} {M : Hm} {o : MO} : But a M (M.set a o) := fun i u n h => by
  rw [List.getElem?_set_ne (Ne.symm n)]
  exact h
theorem Pre.len {M M' : Hm} (h : Pre M M') : M.length ≤ M'.length := by
  rcases Nat.lt_or_ge M'.length M.length with z | z
  · have e := h M'.length M[M'.length] (List.getElem?_eq_getElem z)
    exact absurd (List.getElem?_eq_some_iff.mp e).1 (Nat.lt_irrefl _)
  · exact z
@[simp] theorem get_last {M : Hm} {o : MO} : (M ++ [o])[M.length]? = some o := by simp
@[simp] theorem set_last {M : Hm} {o u : MO} : (M ++ [o]).set M.length u = M ++ [u] := by
  rw [List.set_append_right _ _ (Nat.le_refl _), Nat.sub_self]
  rfl
theorem in62_nat {n : Nat} (h : n < 4611686018427387904) : in62 (n : Int) = true := by
  unfold in62
  rw [Int.natAbs_natCast]
  exact decide_eq_true h

@[simp] theorem cMod_eq {i j : Int} : cMod i j = decide (0 < j) := rfl
theorem cDiv_of {j : Int} (h : cDiv 0 j = true) (i : Int) : cDiv i j = true := h
theorem cMul_r {i j : Int} (h : j.natAbs < 18446744073709551616) : cMul i j = true := by
  unfold cMul
  simp [h]
theorem cMul_l {i j : Int} (h : i.natAbs < 18446744073709551616) : cMul i j = true := by
  unfold cMul
  simp [h]
theorem ix_mod {ns : List Int} {p : Int} (h : 0 < ns.length) : ∃ c, L2.atI (ns.map MV.int) (p % (ns.length : Int)) = some (.int c) := by
  have h1 : 0 ≤ p % (ns.length : Int) := Int.emod_nonneg _ (by omega)
  have h2 : p % (ns.length : Int) < ns.length := Int.emod_lt_of_pos _ (by omega)
  obtain ⟨k, hk⟩ : ∃ k : Nat, p % (ns.length : Int) = k := ⟨_, (Int.toNat_of_nonneg h1).symm⟩
  rw [hk] at h2 ⊢
  rw [atI_nat, List.getElem?_map, List.getElem?_eq_getElem (by omega)]
  exact ⟨_, rfl⟩
namespace D
section
variable {α β : Type}
def wp (r : R α) (Q : α → Hm → Prop) (E : MX → Hm → Prop) : Prop := match r with
  | .ok a M => Q a M
  | .exc x M => E x M
  | .bad => False
def wpS (r : RS) (Q : O → Env → Hm → Prop) (E : MX → Env → Hm → Prop) : Prop := match r with
  | .ok o env M => Q o env M
  | .exc x env M => E x env M
  | .bad => False
theorem wp_mono {r : R α} {Q Q' : α → Hm → Prop} {E E' : MX → Hm → Prop} (h : wp r Q E) (hq : ∀ a M, Q a M → Q' a M) (he : ∀ x M, E x M → E' x M) : wp r Q' E' := by
  cases r with
  | ok a M => exact hq _ _ h
  | exc x M => exact he _ _ h
  | bad => exact h
theorem wpS_mono {r : RS} {Q Q' : O → Env → Hm → Prop} {E E' : MX → Env → Hm → Prop} (h : wpS r Q E) (hq : ∀ o e M, Q o e M → Q' o e M) (he : ∀ x e M, E x e M → E' x e M) : wpS r Q' E' := by
  cases r with
  | ok a e M => exact hq _ _ _ h
  | exc x e M => exact he _ _ _ h
  | bad => exact h
theorem wp_ok_of {r : R α} {Q : α → Hm → Prop} (h : wp r Q fun _ _ => False) : ∃ a M, r = .ok a M ∧ Q a M := by
  cases r with
  | ok a M => exact ⟨a, M, rfl, h⟩
  | exc x M => exact h.elim
  | bad => exact h.elim
variable {Q : α → Hm → Prop} {Qb : β → Hm → Prop} {E : MX → Hm → Prop} {M : Hm} {env : Env}
@[simp ↓] theorem wp_ok {a : α} : wp (.ok a M) Q E = Q a M := nr rfl
@[simp ↓] theorem wp_exc {x : MX} : wp (.exc x M) Q E = E x M := nr rfl
@[simp ↓] theorem wp_bad : wp .bad Q E = False := nr rfl
@[simp ↓] theorem wp_bind {r : R α} {f : α → Hm → R β} : wp (r.bind f) Qb E = wp r (fun a M => wp (f a M) Qb E) E := by cases r <;> rfl
@[simp ↓] theorem wp_bindN {r : R α} {f : α → Hm → R β} : wp (r.bindN f) Qb E = wp r (fun a M => wp (f a M) Qb E) (fun _ _ => False) := by cases r <;> rfl
@[simp ↓] theorem wp_ite {c : Prop} [Decidable c] {a b : R α} : wp (if c then a else b) Q E = if c then wp a Q E else wp b Q E := by split <;> rfl
end
/-! ### readers: one step at the head, the rest unseen -/
section
variable {M : Hm} {F : Bool → Prop}
end
section
variable {Q : MV → Hm → Prop} {Qb : Bool → Hm → Prop} {Ql : List MV → Hm → Prop} {E : MX → Hm → Prop} {M : Hm} {env : Env} {a b : Fe} {t : Fa} {c d : Ft}
@[simp ↓] theorem w_var {i : Nat} : wp (eVar i env M) Q E = rdE env i (fun d => Q d M) := by
  rw [rdE_eq]
  unfold eVar
  rcases h : env[i]? with _ | _ | x
  · rfl
  · rfl
  · rfl
@[simp ↓] theorem w_c {d : MV} : wp (eC d env M) Q E = Q d M := nr rfl
@[simp ↓] theorem w_op {f : MV → MV → Hm → R MV} : wp (eOp f a b env M) Q E = wp (a env M) (fun x M1 => wp (b env M1) (fun y M2 => wp (f x y M2) Q E) E) E := by unfold eOp; simp
@[simp ↓] theorem w_un {f : MV → Hm → R MV} : wp (eUn f a env M) Q E = wp (a env M) (fun x M1 => wp (f x M1) Q E) E := by unfold eUn; simp
@[simp ↓] theorem w_aNil : wp (aNil env M) Ql E = Ql [] M := nr rfl
@[simp ↓] theorem w_aCons : wp (aCons a t env M) Ql E = wp (a env M) (fun x M1 => wp (t env M1) (fun xs M2 => Ql (x :: xs) M2) E) E := by unfold aCons; simp
@[simp ↓] theorem w_tup : wp (eTup t env M) Q E = wp (t env M) (fun xs M1 => if xs.length ≤ SL then Q (.tup xs) M1 else False) E := by unfold eTup; simp
@[simp ↓] theorem w_lst : wp (eLst t env M) Q E = wp (t env M) (fun xs M1 => if xs.length ≤ SL then Q (.ref M1.length) (M1 ++ [.lst xs]) else False) E := by unfold eLst; simp
@[simp ↓] theorem w_fn {f : List MV → Hm → R MV} : wp (eFn f t env M) Q E = wp (t env M) (fun xs M1 => wp (f xs M1) Q E) E := by unfold eFn; simp
@[simp ↓] theorem w_call {G : Ga} {f : Nat} : wp (eCall G f t env M) Q E = wp (t env M) (fun xs M1 => wp (G f xs M1) Q E) E := by unfold eCall eFn; simp
@[simp ↓] theorem w_met {ty : Ty} {f : MV → List MV → Hm → R MV} : wp (eMet ty f a t env M) Q E = wp (a env M) (fun x M1 => rdTy M1 ty x (wp (t env M1) (fun xs M2 => wp (f x xs M2) Q E) E)) E := by unfold eMet rdTy; simp
@[simp ↓] theorem w_if : wp (eIf c a b env M) Q E = wp (c env M) (fun k M1 => if k then wp (a env M1) Q E else wp (b env M1) Q E) E := by unfold eIf; simp
theorem w_andB {x : MV} {p : R MV} : wp (match x with | .bl true => p | .bl false => .ok (.bl false) M | _ => .bad) Q E = (match x with | .bl k => if k then wp p Q E else Q (.bl false) M | _ => False) := by
  cases x with
  | bl k => cases k <;> rfl
  | _ => rfl
@[simp ↓] theorem w_and : wp (eAnd a b env M) Q E = wp (a env M) (fun x M1 => match x with | .bl k => if k then wp (b env M1) Q E else Q (.bl false) M1 | _ => False) E := by
  unfold eAnd
  rw [wp_bind]
  congr 1
  funext x M1
  exact w_andB
theorem w_orB {x : MV} {p : R MV} : wp (match x with | .bl true => .ok (.bl true) M | .bl false => p | _ => .bad) Q E = (match x with | .bl k => if k then Q (.bl true) M else wp p Q E | _ => False) := by
  cases x with
  | bl k => cases k <;> rfl
  | _ => rfl
@[simp ↓] theorem w_or : wp (eOr a b env M) Q E = wp (a env M) (fun x M1 => match x with | .bl k => if k then Q (.bl true) M1 else wp (b env M1) Q E | _ => False) E := by
  unfold eOr
  rw [wp_bind]
  congr 1
  funext x M1
  exact w_orB
@[simp ↓] theorem w_t : wp (eT c env M) Q E = wp (c env M) (fun k M1 => Q (.bl k) M1) E := by unfold eT; simp
theorem w_vB {o : Option Bool} : wp (match o with | some k => .ok k M | none => .bad) Qb E = (match o with | some k => Qb k M | none => False) := by cases o <;> rfl
@[simp ↓] theorem w_v : wp (cV a env M) Qb E = wp (a env M) (fun x M1 => rdT M1 x fun k => Qb k M1) E := by
  unfold cV
  rw [wp_bind]
  congr 1
  funext x M1
  exact w_vB
theorem w_bB {x : MV} : wp (match x with | .bl k => .ok k M | _ => .bad) Qb E = (match x with | .bl k => Qb k M | _ => False) := by cases x <;> rfl
@[simp ↓] theorem w_b : wp (cB a env M) Qb E = wp (a env M) (fun x M1 => match x with | .bl k => Qb k M1 | _ => False) E := by
  unfold cB
  rw [wp_bind]
  congr 1
  funext x M1
  exact w_bB
@[simp ↓] theorem w_cAnd : wp (cAnd c d env M) Qb E = wp (c env M) (fun k M1 => if k then wp (d env M1) Qb E else Qb false M1) E := by unfold cAnd; simp
@[simp ↓] theorem w_cOr : wp (cOr c d env M) Qb E = wp (c env M) (fun k M1 => if k then Qb true M1 else wp (d env M1) Qb E) E := by unfold cOr; simp
@[simp ↓] theorem w_cNot : wp (cNot c env M) Qb E = wp (c env M) (fun k M1 => Qb (!k) M1) E := by unfold cNot; simp
@[simp ↓] theorem w_cYes : wp (cYes env M) Qb E = Qb true M := nr rfl

/-! operations -/
@[simp ↓] theorem w_addI {i j : Int} : wp (fAdd (.int i) (.int j) M) Q E = Q (.int (i + j)) M := nr rfl
@[simp ↓] theorem w_addS {s t : Tx} : wp (fAdd (.str s) (.str t) M) Q E = if s.length + t.length ≤ SL then Q (.str (s ++ t)) M else False := by unfold fAdd; simp
@[simp ↓] theorem w_addT {s t : List MV} : wp (fAdd (.tup s) (.tup t) M) Q E = if s.length + t.length ≤ SL then Q (.tup (s ++ t)) M else False := by unfold fAdd; simp
theorem w_addL {i j : Nat} {s t : List MV} (hi : M[i]? = some (.lst s)) (hj : M[j]? = some (.lst t)) : wp (fAdd (.ref i) (.ref j) M) Q E = if s.length + t.length ≤ SL then Q (.ref M.length) (M ++ [.lst (s ++ t)]) else False := by
  unfold fAdd
  simp [hi, hj]
@[simp ↓] theorem w_iaddI {i j : Int} : wp (fIAdd (.int i) (.int j) M) Q E = Q (.int (i + j)) M := nr rfl
@[simp ↓] theorem w_iaddS {s t : Tx} : wp (fIAdd (.str s) (.str t) M) Q E = if s.length + t.length ≤ SL then Q (.str (s ++ t)) M else False := by unfold fIAdd; simp
@[simp ↓] theorem w_subI {i j : Int} : wp (fSub (.int i) (.int j) M) Q E = Q (.int (i - j)) M := nr rfl
@[simp ↓] theorem w_mulI {i j : Int} : wp (fMul (.int i) (.int j) M) Q E = if cMul i j then Q (.int (i * j)) M else False := by unfold fMul fInt2C; simp
@[simp ↓] theorem w_divI {i j : Int} : wp (fDiv (.int i) (.int j) M) Q E = if cDiv i j then Q (.int (i / j)) M else False := by unfold fDiv fInt2C; simp
@[simp ↓] theorem w_modI {i j : Int} : wp (fMod (.int i) (.int j) M) Q E = if cMod i j then Q (.int (i % j)) M else False := by unfold fMod fInt2C; simp
@[simp ↓] theorem w_powI {i j : Int} : wp (fPow (.int i) (.int j) M) Q E = if cPow i j then Q (.int (i ^ j.toNat)) M else False := by unfold fPow fInt2C; simp
@[simp ↓] theorem w_negI {i : Int} : wp (fNeg (.int i) M) Q E = Q (.int (-i)) M := nr rfl
@[simp ↓] theorem w_ltI {i j : Int} : wp (fLt (.int i) (.int j) M) Q E = Q (.bl (decide (i < j))) M := nr rfl
@[simp ↓] theorem w_leI {i j : Int} : wp (fLe (.int i) (.int j) M) Q E = Q (.bl (decide (i ≤ j))) M := nr rfl
@[simp ↓] theorem w_gtI {i j : Int} : wp (fGt (.int i) (.int j) M) Q E = Q (.bl (decide (j < i))) M := nr rfl
@[simp ↓] theorem w_geI {i j : Int} : wp (fGe (.int i) (.int j) M) Q E = Q (.bl (decide (j ≤ i))) M := nr rfl
@[simp ↓] theorem w_ltS {i j : Tx} : wp (fLt (.str i) (.str j) M) Q E = Q (.bl (decide (i < j))) M := nr rfl
@[simp ↓] theorem w_gtS {i j : Tx} : wp (fGt (.str i) (.str j) M) Q E = Q (.bl (decide (j < i))) M := nr rfl
@[simp ↓] theorem w_eqI {i j : Int} {g : Bool → Bool} : wp (fEqG g (.int i) (.int j) M) Q E = Q (.bl (g (decide (i = j)))) M := nr rfl
@[simp ↓] theorem w_eqS {i j : Tx} {g : Bool → Bool} : wp (fEqG g (.str i) (.str j) M) Q E = Q (.bl (g (decide (i = j)))) M := nr rfl
@[simp ↓] theorem w_eqB {i j : Bool} {g : Bool → Bool} : wp (fEqG g (.bl i) (.bl j) M) Q E = Q (.bl (g (decide (i = j)))) M := nr rfl
@[simp ↓] theorem w_eqIS {i : Int} {j : Tx} {g : Bool → Bool} : wp (fEqG g (.int i) (.str j) M) Q E = Q (.bl (g false)) M := nr rfl
@[simp ↓] theorem w_eqSI {i : Int} {j : Tx} {g : Bool → Bool} : wp (fEqG g (.str j) (.int i) M) Q E = Q (.bl (g false)) M := nr rfl
theorem w_eq {x y : MV} {g : Bool → Bool} {b : Bool} (h : eqM M x y = some b) : wp (fEqG g x y M) Q E = Q (.bl (g b)) M := by
  unfold fEqG
  rw [h]
  rfl
@[simp ↓] theorem w_inS {c : Nat} {t : Tx} {g : Bool → Bool} : wp (fInG g (.str [c]) (.str t) M) Q E = Q (.bl (g (decide (c ∈ t)))) M := nr rfl
theorem w_mO {o : Option MV} : wp (match o with | some d => .ok d M | none => .bad) Q E = rdO o (fun d => Q d M) := by cases o <;> rfl
theorem w_mS {o : Option Nat} : wp (match o with | some c => .ok (.str [c]) M | none => .bad) Q E = rdO o (fun c => Q (.str [c]) M) := by cases o <;> rfl
@[simp ↓] theorem w_ixT {l : List MV} {i : Int} : wp (fIx (.tup l) (.int i) M) Q E = rdI l i (fun d => Q d M) := w_mO
@[simp ↓] theorem w_ixR {l : List MV} {i : Int} : wp (fIx (.rol l) (.int i) M) Q E = rdI l i (fun d => Q d M) := w_mO
@[simp ↓] theorem w_ixS {s : Tx} {i : Int} : wp (fIx (.str s) (.int i) M) Q E = if s.length ≤ SL then rdI s i (fun c => Q (.str [c]) M) else False := by
  show wp (if s.length ≤ SL then (match L2.atI s i with
    | some c => .ok (.str [c]) M
    | none => .bad) else .bad) Q E = _
  rw [wp_ite, w_mS, wp_bad]
  rfl
@[simp ↓] theorem w_ixL {k : Nat} {i : Int} : wp (fIx (.ref k) (.int i) M) Q E = rdL M k (fun l => rdI l i (fun d => Q d M)) := by
  show wp (match M[k]? with
    | some (.lst l) => (match L2.atI l i with
      | some d => .ok d M
      | none => .bad)
    | _ => .bad) Q E = _
  unfold rdL
  cases M[k]? with
  | none => rfl
  | some o =>
    cases o with
    | lst l => exact w_mO
    | _ => rfl
@[simp ↓] theorem w_sl {f : MV → Option Int → Option Int → Hm → R MV} {lo hi : Fo} : wp (eSl f a lo hi env M) Q E = wp (a env M) (fun x M1 => wp (lo env M1) (fun l M2 => wp (hi env M2) (fun u M3 => wp (f x l u M3) Q E) E) E) E := by unfold eSl; simp
@[simp ↓] theorem w_oN {Qo : Option Int → Hm → Prop} : wp (oNone env M) Qo E = Qo none M := nr rfl
theorem w_oB {x : MV} {Qo : Option Int → Hm → Prop} : wp (match x with | .int i => .ok (some i) M | _ => .bad) Qo E = (match x with | .int i => Qo (some i) M | _ => False) := by cases x <;> rfl
@[simp ↓] theorem w_oS {Qo : Option Int → Hm → Prop} : wp (oSome a env M) Qo E = wp (a env M) (fun x M1 => match x with | .int i => Qo (some i) M1 | _ => False) E := by
  unfold oSome
  rw [wp_bind]
  congr 1
  funext x M1
  exact w_oB
@[simp ↓] theorem w_slT {l : List MV} {lo hi : Option Int} : wp (fSl (.tup l) lo hi M) Q E = Q (.tup (cut l lo hi)) M := nr rfl
@[simp ↓] theorem w_slS {s : Tx} {lo hi : Option Int} : wp (fSl (.str s) lo hi M) Q E = if s.length ≤ SL then Q (.str (cut s lo hi)) M else False := by unfold fSl; simp
@[simp ↓] theorem w_lenS {s : Tx} : wp (fLen [.str s] M) Q E = if s.length ≤ SL then Q (.int s.length) M else False := by unfold fLen; simp
@[simp ↓] theorem w_lenT {s : List MV} : wp (fLen [.tup s] M) Q E = Q (.int s.length) M := nr rfl
@[simp ↓] theorem w_lenR {s : List MV} : wp (fLen [.rol s] M) Q E = Q (.int s.length) M := nr rfl
@[simp ↓] theorem w_lenL {k : Nat} : wp (fLen [.ref k] M) Q E = rdL M k (fun l => Q (.int l.length) M) := by
  show wp (match M[k]? with
    | some (.lst l) => .ok (.int l.length) M
    | _ => .bad) Q E = _
  unfold rdL
  cases M[k]? with
  | none => rfl
  | some o =>
    cases o with
    | lst l => rfl
    | _ => rfl
@[simp ↓] theorem w_str {i : Int} : wp (fStr [.int i] M) Q E = if i.natAbs.log2 < 1920 then Q (.str (numT i)) M else False := by unfold fStr; simp
@[simp ↓] theorem w_intI {i : Int} : wp (fIntOf [.int i] M) Q E = Q (.int i) M := nr rfl
@[simp ↓] theorem w_intS {s : Tx} : wp (fIntOf [.str s] M) Q E = if allDig s && !s.isEmpty && decide (s.length ≤ 640) then Q (.int (PySem.NumText.digitsVal s : Nat)) M else False := by
  unfold fIntOf
  simp only [wp_ite]
  rfl
@[simp ↓] theorem w_abs {i : Int} : wp (fAbs [.int i] M) Q E = Q (.int (i.natAbs : Int)) M := by
  have e : (i.natAbs : Int) = (if i < 0 then -i else i) := by split <;> omega
  rw [e]
  rfl
@[simp ↓] theorem w_ord {c : Nat} : wp (fOrd [.str [c]] M) Q E = Q (.int c) M := nr rfl
@[simp ↓] theorem w_tupT {l : List MV} : wp (fTuple [.tup l] M) Q E = Q (.tup l) M := nr rfl
@[simp ↓] theorem w_tupR {l : List MV} : wp (fTuple [.rol l] M) Q E = Q (.tup l) M := nr rfl
@[simp ↓] theorem w_tupL {k : Nat} : wp (fTuple [.ref k] M) Q E = rdL M k (fun l => Q (.tup l) M) := by
  show wp (match M[k]? with
    | some (.lst l) => .ok (.tup l) M
    | _ => .bad) Q E = _
  unfold rdL
  cases M[k]? with
  | none => rfl
  | some o =>
    cases o with
    | lst l => rfl
    | _ => rfl
@[simp ↓] theorem w_listT {l : List MV} : wp (fList [.tup l] M) Q E = Q (.ref M.length) (M ++ [.lst l]) := nr rfl
@[simp ↓] theorem w_listR {l : List MV} : wp (fList [.rol l] M) Q E = Q (.ref M.length) (M ++ [.lst l]) := nr rfl
@[simp ↓] theorem w_listL {k : Nat} : wp (fList [.ref k] M) Q E = rdL M k (fun l => Q (.ref M.length) (M ++ [.lst l])) := by
  show wp (match M[k]? with
    | some (.lst l) => .ok (.ref M.length) (M ++ [.lst l])
    | _ => .bad) Q E = _
  unfold rdL
  cases M[k]? with
  | none => rfl
  | some o =>
    cases o with
    | lst l => rfl
    | _ => rfl
@[simp ↓] theorem w_divmod {i j : Int} : wp (fDivmod [.int i, .int j] M) Q E = if cDiv i j then Q (.tup [.int (i / j), .int (i % j)]) M else False := by unfold fDivmod; simp
@[simp ↓] theorem w_append {k : Nat} {d : MV} : wp (fAppend (.ref k) [d] M) Q E = rdL M k (fun l => if l.length < SL then Q .non (M.set k (.lst (l ++ [d]))) else False) := by
  show wp (match M[k]? with
    | some (.lst l) => (if l.length < SL then .ok .non (M.set k (.lst (l ++ [d]))) else .bad)
    | _ => .bad) Q E = _
  unfold rdL
  cases M[k]? with
  | none => rfl
  | some o =>
    cases o with
    | lst l => exact wp_ite
    | _ => rfl
theorem w_mP {o : Option MV} {M' : Hm} : wp (match o with | some d => .ok d M' | none => .bad) Q E = rdO o (fun d => Q d M') := by cases o <;> rfl
@[simp ↓] theorem w_pop {k : Nat} : wp (fPop (.ref k) [] M) Q E = rdL M k (fun l => rdO l[l.length - 1]? fun d => Q d (M.set k (.lst l.dropLast))) := by
  show wp (match M[k]? with
    | some (.lst l) => (match l[l.length - 1]? with | some d => .ok d (M.set k (.lst l.dropLast)) | none => .bad)
    | _ => .bad) Q E = _
  unfold rdL
  cases M[k]? with
  | none => rfl
  | some o =>
    cases o with
    | lst l => exact w_mP
    | _ => rfl
theorem w_mJ {o : Option (List Tx)} {sep : Tx} : wp (match o with | some ss => if (ss.map (·.length)).sum + ss.length * sep.length ≤ SL then .ok (.str (joinT sep ss)) M else .bad | none => .bad) Q E = rdO o (fun ss => if (ss.map (·.length)).sum + ss.length * sep.length ≤ SL then Q (.str (joinT sep ss)) M else False) := by
  cases o with
  | none => rfl
  | some ss => exact wp_ite
@[simp ↓] theorem w_join {k : Nat} {sep : Tx} : wp (fJoin (.str sep) [.ref k] M) Q E = rdL M k (fun l => rdO (textsOf l) fun ss => if (ss.map (·.length)).sum + ss.length * sep.length ≤ SL then Q (.str (joinT sep ss)) M else False) := by
  show wp (match M[k]? with
    | some (.lst l) => (match textsOf l with | some ss => if (ss.map (·.length)).sum + ss.length * sep.length ≤ SL then .ok (.str (joinT sep ss)) M else .bad | none => .bad)
    | _ => .bad) Q E = _
  unfold rdL
  cases M[k]? with
  | none => rfl
  | some o =>
    cases o with
    | lst l => exact w_mJ
    | _ => rfl
@[simp ↓] theorem w_rev {k : Nat} : wp (fRev (.ref k) M) Q E = rdL M k (fun l => Q (.ref M.length) (M ++ [.lst l.reverse])) := by
  show wp (match M[k]? with
    | some (.lst l) => .ok (.ref M.length) (M ++ [.lst l.reverse])
    | _ => .bad) Q E = _
  unfold rdL
  cases M[k]? with
  | none => rfl
  | some o =>
    cases o with
    | lst l => rfl
    | _ => rfl
@[simp ↓] theorem w_find3 {x y : Tx} {i : Int} : wp (fFind3 (.str x) [.str y, .int i] M) Q E = Q (.int (PySem.Txt.find3 (T x) (T y) i)) M := nr rfl
@[simp ↓] theorem w_zfill {x : Tx} {i : Int} : wp (fZfill (.str x) [.int i] M) Q E = if PySem.PadOk i && noSign x then Q (.str (List.replicate (i.toNat - x.length) 48 ++ x)) M else False := by
  unfold fZfill
  simp only [wp_ite]
  rfl
theorem w_mA {o : Option (List Bool)} {g : List Bool → Bool} : wp (match o with | some bs => .ok (.bl (g bs)) M | none => .bad) Q E = rdO o (fun bs => Q (.bl (g bs)) M) := by cases o <;> rfl
@[simp ↓] theorem w_all {k : Nat} {g : List Bool → Bool} : wp (fAllG g [.ref k] M) Q E = rdL M k (fun l => rdO (boolsOf l) fun bs => Q (.bl (g bs)) M) := by
  show wp (match M[k]? with
    | some (.lst l) => (match boolsOf l with | some bs => .ok (.bl (g bs)) M | none => .bad)
    | _ => .bad) Q E = _
  unfold rdL
  cases M[k]? with
  | none => rfl
  | some o =>
    cases o with
    | lst l => exact w_mA
    | _ => rfl
theorem w_isi {x : MV} {c t : String} {k : Bool} (ht : tyN M x = some t) (hk : L2.kitB t c = some k) : wp (fIsi c [x] M) Q E = Q (.bl k) M := by
  unfold fIsi
  simp [ht, hk]
@[simp ↓] theorem w_isi_NoneType_tuple : wp (fIsi "tuple" [.non] M) Q E = Q (.bl false) M := w_isi (t := "NoneType") rfl (by decide +kernel)
@[simp ↓] theorem w_isi_NoneType_str : wp (fIsi "str" [.non] M) Q E = Q (.bl false) M := w_isi (t := "NoneType") rfl (by decide +kernel)
@[simp ↓] theorem w_isi_NoneType_int : wp (fIsi "int" [.non] M) Q E = Q (.bl false) M := w_isi (t := "NoneType") rfl (by decide +kernel)
@[simp ↓] theorem w_isi_NoneType_bool : wp (fIsi "bool" [.non] M) Q E = Q (.bl false) M := w_isi (t := "NoneType") rfl (by decide +kernel)
@[simp ↓] theorem w_isi_NoneType_list : wp (fIsi "list" [.non] M) Q E = Q (.bl false) M := w_isi (t := "NoneType") rfl (by decide +kernel)
@[simp ↓] theorem w_isi_NoneType_dict : wp (fIsi "dict" [.non] M) Q E = Q (.bl false) M := w_isi (t := "NoneType") rfl (by decide +kernel)
@[simp ↓] theorem w_isi_bool_tuple {b : Bool} : wp (fIsi "tuple" [(.bl b)] M) Q E = Q (.bl false) M := w_isi (t := "bool") rfl (by decide +kernel)
@[simp ↓] theorem w_isi_bool_str {b : Bool} : wp (fIsi "str" [(.bl b)] M) Q E = Q (.bl false) M := w_isi (t := "bool") rfl (by decide +kernel)
@[simp ↓] theorem w_isi_bool_int {b : Bool} : wp (fIsi "int" [(.bl b)] M) Q E = Q (.bl true) M := w_isi (t := "bool") rfl (by decide +kernel)
@[simp ↓] theorem w_isi_bool_bool {b : Bool} : wp (fIsi "bool" [(.bl b)] M) Q E = Q (.bl true) M := w_isi (t := "bool") rfl (by decide +kernel)
@[simp ↓] theorem w_isi_bool_list {b : Bool} : wp (fIsi "list" [(.bl b)] M) Q E = Q (.bl false) M := w_isi (t := "bool") rfl (by decide +kernel)
@[simp ↓] theorem w_isi_bool_dict {b : Bool} : wp (fIsi "dict" [(.bl b)] M) Q E = Q (.bl false) M := w_isi (t := "bool") rfl (by decide +kernel)
@[simp ↓] theorem w_isi_int_tuple {i : Int} : wp (fIsi "tuple" [(.int i)] M) Q E = Q (.bl false) M := w_isi (t := "int") rfl (by decide +kernel)
@[simp ↓] theorem w_isi_int_str {i : Int} : wp (fIsi "str" [(.int i)] M) Q E = Q (.bl false) M := w_isi (t := "int") rfl (by decide +kernel)
@[simp ↓] theorem w_isi_int_int {i : Int} : wp (fIsi "int" [(.int i)] M) Q E = Q (.bl true) M := w_isi (t := "int") rfl (by decide +kernel)
@[simp ↓] theorem w_isi_int_bool {i : Int} : wp (fIsi "bool" [(.int i)] M) Q E = Q (.bl false) M := w_isi (t := "int") rfl (by decide +kernel)
@[simp ↓] theorem w_isi_int_list {i : Int} : wp (fIsi "list" [(.int i)] M) Q E = Q (.bl false) M := w_isi (t := "int") rfl (by decide +kernel)
@[simp ↓] theorem w_isi_int_dict {i : Int} : wp (fIsi "dict" [(.int i)] M) Q E = Q (.bl false) M := w_isi (t := "int") rfl (by decide +kernel)
@[simp ↓] theorem w_isi_str_tuple {s : Tx} : wp (fIsi "tuple" [(.str s)] M) Q E = Q (.bl false) M := w_isi (t := "str") rfl (by decide +kernel)
@[simp ↓] theorem w_isi_str_str {s : Tx} : wp (fIsi "str" [(.str s)] M) Q E = Q (.bl true) M := w_isi (t := "str") rfl (by decide +kernel)
@[simp ↓] theorem w_isi_str_int {s : Tx} : wp (fIsi "int" [(.str s)] M) Q E = Q (.bl false) M := w_isi (t := "str") rfl (by decide +kernel)
@[simp ↓] theorem w_isi_str_bool {s : Tx} : wp (fIsi "bool" [(.str s)] M) Q E = Q (.bl false) M := w_isi (t := "str") rfl (by decide +kernel)
@[simp ↓] theorem w_isi_str_list {s : Tx} : wp (fIsi "list" [(.str s)] M) Q E = Q (.bl false) M := w_isi (t := "str") rfl (by decide +kernel)
@[simp ↓] theorem w_isi_str_dict {s : Tx} : wp (fIsi "dict" [(.str s)] M) Q E = Q (.bl false) M := w_isi (t := "str") rfl (by decide +kernel)
@[simp ↓] theorem w_isi_tuple_tuple {l : List MV} : wp (fIsi "tuple" [(.tup l)] M) Q E = Q (.bl true) M := w_isi (t := "tuple") rfl (by decide +kernel)
@[simp ↓] theorem w_isi_tuple_str {l : List MV} : wp (fIsi "str" [(.tup l)] M) Q E = Q (.bl false) M := w_isi (t := "tuple") rfl (by decide +kernel)
@[simp ↓] theorem w_isi_tuple_int {l : List MV} : wp (fIsi "int" [(.tup l)] M) Q E = Q (.bl false) M := w_isi (t := "tuple") rfl (by decide +kernel)
@[simp ↓] theorem w_isi_tuple_bool {l : List MV} : wp (fIsi "bool" [(.tup l)] M) Q E = Q (.bl false) M := w_isi (t := "tuple") rfl (by decide +kernel)
@[simp ↓] theorem w_isi_tuple_list {l : List MV} : wp (fIsi "list" [(.tup l)] M) Q E = Q (.bl false) M := w_isi (t := "tuple") rfl (by decide +kernel)
@[simp ↓] theorem w_isi_tuple_dict {l : List MV} : wp (fIsi "dict" [(.tup l)] M) Q E = Q (.bl false) M := w_isi (t := "tuple") rfl (by decide +kernel)
end

/-! ### targets -/
section
variable {Q : Env → Hm → Prop} {E : MX → Hm → Prop} {M : Hm} {env : Env}
@[simp ↓] theorem w_gN {i : Nat} {d : MV} : wp (gN i d env M) Q E = Q (env.set i (some d)) M := nr rfl
@[simp ↓] theorem w_gT {n : Nat} {r : Ftgs} {l : List MV} : wp (gT n r (.tup l) env M) Q E = if l.length = n then wp (r l env M) Q E else False := by unfold gT; simp
@[simp ↓] theorem w_gsNil : wp (gsNil [] env M) Q E = Q env M := nr rfl
@[simp ↓] theorem w_gsCons {g : Ftg} {r : Ftgs} {d : MV} {ds : List MV} : wp (gsCons g r (d :: ds) env M) Q E = wp (g d env M) (fun e1 M1 => wp (r ds e1 M1) Q E) E := by unfold gsCons; simp
@[simp ↓] theorem w_gIx {f : MV → MV → MV → Hm → R MV} {a b : Fe} {d : MV} : wp (gIx f a b d env M) Q E = wp (a env M) (fun x M1 => wp (b env M1) (fun y M2 => wp (f x y d M2) (fun _ M3 => Q env M3) (fun _ _ => False)) (fun _ _ => False)) (fun _ _ => False) := by unfold gIx; simp
theorem w_mX {o : Option Nat} {k : Nat} {l : List MV} {d : MV} {Q : MV → Hm → Prop} : wp (match o with | some j => .ok .non (M.set k (.lst (l.set j d))) | none => .bad) Q E = rdO o (fun j => Q .non (M.set k (.lst (l.set j d)))) := by cases o <;> rfl
section
variable {Q : MV → Hm → Prop}
@[simp ↓] theorem w_setL {k : Nat} {i : Int} {d : MV} : wp (fSetL (.ref k) (.int i) d M) Q E = rdL M k (fun l => rdX l.length i fun j => Q .non (M.set k (.lst (l.set j d)))) := by
  show wp (match M[k]? with
    | some (.lst l) => (match L2.ixN l.length i with | some j => .ok .non (M.set k (.lst (l.set j d))) | none => .bad)
    | _ => .bad) Q E = _
  unfold rdL
  cases M[k]? with
  | none => rfl
  | some o =>
    cases o with
    | lst l => exact w_mX
    | _ => rfl
end
end

/-! ### statements -/
section
variable {Q : O → Env → Hm → Prop} {E : MX → Env → Hm → Prop} {M : Hm} {env : Env} {a b : Fs} {e : Fe} {c : Ft}
@[simp ↓] theorem wS_ok {o : O} : wpS (.ok o env M) Q E = Q o env M := nr rfl
@[simp ↓] theorem wS_exc {x : MX} : wpS (.exc x env M) Q E = E x env M := nr rfl
@[simp ↓] theorem wS_bad : wpS .bad Q E = False := nr rfl
@[simp ↓] theorem wS_ite {c : Prop} [Decidable c] {a b : RS} : wpS (if c then a else b) Q E = if c then wpS a Q E else wpS b Q E := by split <;> rfl
@[simp ↓] theorem wS_st {α : Type} {r : R α} {f : α → Hm → RS} : wpS (r.st env f) Q E = wp r (fun a M1 => wpS (f a M1) Q E) (fun x M1 => E x env M1) := by cases r <;> rfl
@[simp ↓] theorem wS_nx : wpS (sNx env M) Q E = Q .nx env M := nr rfl
@[simp ↓] theorem wS_brk : wpS (sBrk env M) Q E = Q .brk env M := nr rfl
@[simp ↓] theorem wS_cnt : wpS (sCnt env M) Q E = Q .cnt env M := nr rfl
@[simp ↓] theorem wS_seq : wpS (sSeq a b env M) Q E = wpS (a env M) (fun o e1 M1 => match o with | .nx => wpS (b e1 M1) Q E | o => Q o e1 M1) E := by
  unfold sSeq
  cases a env M with
  | ok o e1 M1 => cases o <;> rfl
  | _ => rfl
@[simp ↓] theorem wS_set {i : Nat} : wpS (sSet i e env M) Q E = wp (e env M) (fun d M1 => Q .nx (env.set i (some d)) M1) (fun x M1 => E x env M1) := by unfold sSet; simp
@[simp ↓] theorem wS_asg {g : Ftg} : wpS (sAsg g e env M) Q E = wp (e env M) (fun d M1 => wp (g d env M1) (fun e1 M2 => Q .nx e1 M2) (fun x M2 => E x env M2)) (fun x M1 => E x env M1) := by unfold sAsg; simp
@[simp ↓] theorem wS_aug {f : MV → MV → Hm → R MV} {i : Nat} : wpS (sAug f i e env M) Q E = rdE env i (fun x => wp (e env M) (fun y M1 => wp (f x y M1) (fun z M2 => Q .nx (env.set i (some z)) M2) (fun x M2 => E x env M2)) (fun x M1 => E x env M1)) := by
  rw [rdE_eq]
  unfold sAug
  rcases h : env[i]? with _ | _ | x
  · rfl
  · rfl
  · simp
@[simp ↓] theorem wS_ex : wpS (sEx e env M) Q E = wp (e env M) (fun _ M1 => Q .nx env M1) (fun x M1 => E x env M1) := by unfold sEx; simp
@[simp ↓] theorem wS_ret : wpS (sRet e env M) Q E = wp (e env M) (fun d M1 => Q (.ret d) env M1) (fun x M1 => E x env M1) := by unfold sRet; simp
@[simp ↓] theorem wS_retN : wpS (sRetN env M) Q E = Q (.ret .non) env M := nr rfl
@[simp ↓] theorem wS_if : wpS (sIf c a b env M) Q E = wp (c env M) (fun k M1 => if k then wpS (a env M1) Q E else wpS (b env M1) Q E) (fun x M1 => E x env M1) := by unfold sIf; simp
@[simp ↓] theorem wS_raise {c : Nat} : wpS (sRaiseC c env M) Q E = E ⟨c, none⟩ env M := nr rfl
@[simp ↓] theorem wS_while : wpS (sWhl c b env M) Q E = wpS (whlGo c b WL env M) Q E := nr rfl
@[simp ↓] theorem wS_for {it : Fi} {g : Ftg} : wpS (sFor it g b env M) Q E = wp (it env M) (fun p M1 => wpS (forGo p.1 g b p.2 0 env M1) Q E) (fun x M1 => E x env M1) := by unfold sFor; simp
theorem wS_try {sub : Nat → Option Bool} {i : Nat} {su : MX → Fs} : wpS (sTryAs a sub i su env M) Q E = wpS (a env M) Q (fun x e1 M1 => match sub x.cls with
    | some true => if i < e1.length then wpS (su x (e1.set i none) M1) (fun o e2 M2 => Q o (e2.set i none) M2) (fun _ _ _ => False) else False
    | some false => E x e1 M1
    | none => False) := by
  unfold sTryAs
  cases a env M with
  | ok o e1 M1 => rfl
  | exc x e1 M1 =>
    show wpS (match sub x.cls with
      | some true => if i < e1.length then (match su x (e1.set i none) M1 with
        | .ok o env2 M2 => .ok o (env2.set i none) M2
        | _ => .bad) else .bad
      | some false => .exc x e1 M1
      | none => .bad) Q E = (match sub x.cls with
      | some true => if i < e1.length then wpS (su x (e1.set i none) M1) (fun o e2 M2 => Q o (e2.set i none) M2) (fun _ _ _ => False) else False
      | some false => E x e1 M1
      | none => False)
    cases sub x.cls with
    | none => rfl
    | some k =>
      cases k with
      | false => rfl
      | true =>
        by_cases hl : i < e1.length
        · simp only [if_pos hl]
          cases su x (e1.set i none) M1 <;> rfl
        · simp only [if_neg hl]
          rfl
  | bad => rfl
/-- a while: Inv k, at most k turns to go -/
theorem wS_whl {Q : O → Env → Hm → Prop} {E : MX → Env → Hm → Prop} (Inv : Nat → Env → Hm → Prop)
    (step : ∀ k env M, Inv k env M → wp (c env M) (fun t M1 => if t then wpS (b env M1) (fun o e2 M2 => match o with
      | .nx => ∃ k', k' < k ∧ Inv k' e2 M2
      | .cnt => ∃ k', k' < k ∧ Inv k' e2 M2
      | .brk => Q .nx e2 M2
      | .ret d => Q (.ret d) e2 M2) E else Q .nx env M1) (fun x M1 => E x env M1)) :
    ∀ (n k : Nat) env M, k < n → Inv k env M → wpS (whlGo c b n env M) Q E := by
  intro n
  induction n with
  | zero => intro k env M hk; exact absurd hk (Nat.not_lt_zero _)
  | succ n ih =>
    intro k env M hk hi
    have h := step k env M hi
    show wpS ((c env M).st env fun k M1 => if k then
      match b env M1 with
      | .ok .nx env2 M2 => whlGo c b n env2 M2
      | .ok .cnt env2 M2 => whlGo c b n env2 M2
      | .ok .brk env2 M2 => .ok .nx env2 M2
      | r => r
    else .ok .nx env M1) Q E
    rw [wS_st]
    refine wp_mono h (fun t M1 h1 => ?_) fun _ _ h1 => h1
    cases t with
    | false => exact h1
    | true =>
      have h1 : wpS (b env M1) _ E := h1
      show wpS (match b env M1 with
      | .ok .nx env2 M2 => whlGo c b n env2 M2
      | .ok .cnt env2 M2 => whlGo c b n env2 M2
      | .ok .brk env2 M2 => .ok .nx env2 M2
      | r => r) Q E
      cases hb : b env M1 with
      | bad => rw [hb] at h1; exact h1
      | exc x e2 M2 => rw [hb] at h1; exact h1
      | ok o e2 M2 =>
        rw [hb] at h1
        cases o with
        | nx => obtain ⟨k', hk', hi'⟩ := h1; exact ih k' e2 M2 (by omega) hi'
        | cnt => obtain ⟨k', hk', hi'⟩ := h1; exact ih k' e2 M2 (by omega) hi'
        | brk => exact h1
        | ret d => exact h1
/-- a for over what is told from k on -/
theorem wS_for0 {Q : O → Env → Hm → Prop} {E : MX → Env → Hm → Prop} {g : Ftg} {ni : Ni} (Inv : Nat → Env → Hm → Prop) (N : Nat)
    (hn : ∀ k env M, Inv k env M → k ≤ N → ∃ o, ni M k = some o ∧ (o = none ↔ k = N))
    (step : ∀ k d env M, k < N → ni M k = some (some d) → Inv k env M → wp (g d env M) (fun e1 M1 => wpS (b e1 M1) (fun o e2 M2 => match o with
      | .nx => Inv (k + 1) e2 M2
      | .cnt => Inv (k + 1) e2 M2
      | .brk => Q .nx e2 M2
      | .ret d => Q (.ret d) e2 M2) E) (fun x M1 => E x env M1))
    (hend : ∀ env M, Inv N env M → Q .nx env M) :
    ∀ (n k : Nat) env M, k + n = N + 1 → k ≤ N → Inv k env M → wpS (forGo ni g b n k env M) Q E := by
  intro n
  induction n with
  | zero => intro k env M h1 h2 _; omega
  | succ n ih =>
    intro k env M h1 h2 hi
    obtain ⟨o, ho, hk⟩ := hn k env M hi h2
    show wpS (match ni M k with
      | none => .bad
      | some none => .ok .nx env M
      | some (some x) => (g x env M).st env fun env1 M1 => match b env1 M1 with
        | .ok .nx env2 M2 => forGo ni g b n (k + 1) env2 M2
        | .ok .cnt env2 M2 => forGo ni g b n (k + 1) env2 M2
        | .ok .brk env2 M2 => .ok .nx env2 M2
        | r => r) Q E
    rw [ho]
    cases o with
    | none =>
      have e := hk.mp rfl
      subst e
      exact hend env M hi
    | some d =>
      have hlt : k < N := by
        rcases Nat.lt_or_ge k N with z | z
        · exact z
        · have := hk.mpr (by omega)
          cases this
      have h := step k d env M hlt ho hi
      show wpS ((g d env M).st env fun env1 M1 => match b env1 M1 with
        | .ok .nx env2 M2 => forGo ni g b n (k + 1) env2 M2
        | .ok .cnt env2 M2 => forGo ni g b n (k + 1) env2 M2
        | .ok .brk env2 M2 => .ok .nx env2 M2
        | r => r) Q E
      rw [wS_st]
      refine wp_mono h (fun e1 M1 h1 => ?_) fun _ _ h1 => h1
      cases hb : b e1 M1 with
      | bad => rw [hb] at h1; exact h1
      | exc x e2 M2 => rw [hb] at h1; exact h1
      | ok o e2 M2 =>
        rw [hb] at h1
        cases o with
        | nx => exact ih (k + 1) e2 M2 (by omega) (by omega) h1
        | cnt => exact ih (k + 1) e2 M2 (by omega) (by omega) h1
        | brk => exact h1
        | ret d => exact h1
theorem wS_forT {Q : O → Env → Hm → Prop} {E : MX → Env → Hm → Prop} {g : Ftg} {l : List MV} (Inv : Nat → Env → Hm → Prop) (h0 : Inv 0 env M)
    (step : ∀ k d env M, l[k]? = some d → Inv k env M → wp (g d env M) (fun e1 M1 => wpS (b e1 M1) (fun o e2 M2 => match o with
      | .nx => Inv (k + 1) e2 M2
      | .cnt => Inv (k + 1) e2 M2
      | .brk => Q .nx e2 M2
      | .ret d => Q (.ret d) e2 M2) E) (fun x M1 => E x env M1))
    (hend : ∀ env M, Inv l.length env M → Q .nx env M) : wpS (forGo (nT l) g b (l.length + 1) 0 env M) Q E := by
  refine wS_for0 Inv l.length (fun k env M _ hk => ⟨l[k]?, rfl, ?_⟩) (fun k d env M _ hd hi => step k d env M (Option.some.inj hd) hi) hend _ 0 env M (by omega) (by omega) h0
  rw [List.getElem?_eq_none_iff]
  omega
theorem wS_forR {Q : O → Env → Hm → Prop} {E : MX → Env → Hm → Prop} {g : Ftg} {lo c : Int} {n : Nat} (Inv : Nat → Env → Hm → Prop) (h0 : Inv 0 env M)
    (step : ∀ k env M, k < n → Inv k env M → wp (g (.int (lo + k * c)) env M) (fun e1 M1 => wpS (b e1 M1) (fun o e2 M2 => match o with
      | .nx => Inv (k + 1) e2 M2
      | .cnt => Inv (k + 1) e2 M2
      | .brk => Q .nx e2 M2
      | .ret d => Q (.ret d) e2 M2) E) (fun x M1 => E x env M1))
    (hend : ∀ env M, Inv n env M → Q .nx env M) : wpS (forGo (nR lo c n) g b (n + 1) 0 env M) Q E := by
  refine wS_for0 Inv n (fun k env M _ hk => ⟨_, rfl, ?_⟩) (fun k d env M hk hd hi => ?_) hend _ 0 env M (by omega) (by omega) h0
  · by_cases h : k < n
    · rw [if_pos h]
      constructor
      · intro z; cases z
      · intro z; omega
    · rw [if_neg h]
      constructor
      · intro _; omega
      · intro _; rfl
  · unfold nR at hd
    rw [if_pos hk] at hd
    cases hd
    exact step k env M hk hi
end
/-! ### what is walked -/
section
variable {Q : Ni × Nat → Hm → Prop} {E : MX → Hm → Prop} {M : Hm} {env : Env} {a : Fe} {t : Fa}
@[simp ↓] theorem w_iRg {f : List MV → Hm → R (Ni × Nat)} : wp (iRg f t env M) Q E = wp (t env M) (fun xs M1 => wp (f xs M1) Q E) E := by unfold iRg; simp
@[simp ↓] theorem w_rg1 {j : Int} : wp (rg1 [.int j] M) Q E = if in62 j then Q (nR 0 1 j.toNat, j.toNat + 1) M else False := by unfold rg1; simp
@[simp ↓] theorem w_rg2 {i j : Int} : wp (rg2 [.int i, .int j] M) Q E = if in62 i && in62 j then Q (nR i 1 (j - i).toNat, (j - i).toNat + 1) M else False := by unfold rg2; simp
@[simp ↓] theorem w_iA : wp (iA a env M) Q E = wp (a env M) (fun x M1 => rdIt M1 x fun p => Q p M1) E := by
  unfold iA
  rw [wp_bind]
  congr 1
  funext x M1
  cases x with
  | ref i =>
    show wp (match M1[i]? with
      | some (.lst l) => .ok (nL i, l.length + 1) M1
      | _ => .bad) Q E = rdL M1 i fun l => Q (nL i, l.length + 1) M1
    unfold rdL
    cases M1[i]? with
    | none => rfl
    | some o => cases o <;> rfl
  | _ => rfl
end
/-! ### comprehensions -/
section
variable {Q : MV → Hm → Prop} {E : MX → Hm → Prop} {M : Hm} {env : Env} {e : Fe} {c : Ft} {g : Ftg} {it : Fi} {vs : List Nat}
@[simp ↓] theorem w_lc : wp (eLc it g c e vs env M) Q E = wp (it env M) (fun p M1 => wp (lcGo p.1 g c e (wipeE env vs) p.2 0 [] M1) (fun l M2 => Q (.ref M2.length) (M2 ++ [.lst l])) E) E := by unfold eLc; simp
theorem w_lc0 {Ql : List MV → Hm → Prop} {ni : Ni} (Inv : Nat → List MV → Hm → Prop) (N : Nat)
    (hn : ∀ k acc M, Inv k acc M → k ≤ N → ∃ o, ni M k = some o ∧ (o = none ↔ k = N))
    (step : ∀ k d acc M, k < N → ni M k = some (some d) → Inv k acc M → wp (g d env M) (fun e1 M1 => wp (c e1 M1) (fun t M2 => if t then wp (e e1 M2) (fun y M3 => acc.length < SL ∧ Inv (k + 1) (acc ++ [y]) M3) (fun _ _ => False) else Inv (k + 1) acc M2) (fun _ _ => False)) (fun _ _ => False))
    (hend : ∀ acc M, Inv N acc M → Ql acc M) :
    ∀ (n k : Nat) acc M, k + n = N + 1 → k ≤ N → Inv k acc M → wp (lcGo ni g c e env n k acc M) Ql E := by
  intro n
  induction n with
  | zero => intro k acc M h1 h2 _; omega
  | succ n ih =>
    intro k acc M h1 h2 hi
    obtain ⟨o, ho, hk⟩ := hn k acc M hi h2
    show wp (match ni M k with
      | none => .bad
      | some none => .ok acc M
      | some (some x) => (g x env M).bindN fun env1 M1 => (c env1 M1).bindN fun b M2 =>
        if b then (e env1 M2).bindN fun y M3 => if acc.length < SL then lcGo ni g c e env n (k + 1) (acc ++ [y]) M3 else .bad
        else lcGo ni g c e env n (k + 1) acc M2) Ql E
    rw [ho]
    cases o with
    | none =>
      have z := hk.mp rfl
      subst z
      exact hend acc M hi
    | some d =>
      have hlt : k < N := by
        rcases Nat.lt_or_ge k N with z | z
        · exact z
        · have := hk.mpr (by omega)
          cases this
      have h := step k d acc M hlt ho hi
      show wp ((g d env M).bindN fun env1 M1 => (c env1 M1).bindN fun b M2 =>
        if b then (e env1 M2).bindN fun y M3 => if acc.length < SL then lcGo ni g c e env n (k + 1) (acc ++ [y]) M3 else .bad
        else lcGo ni g c e env n (k + 1) acc M2) Ql E
      simp only [wp_bindN, wp_ite]
      refine wp_mono h (fun e1 M1 h1 => wp_mono h1 (fun t M2 h2' => ?_) fun _ _ z => z) fun _ _ z => z
      cases t with
      | false => exact ih (k + 1) acc M2 (by omega) (by omega) h2'
      | true =>
        refine wp_mono h2' (fun y M3 h3 => ?_) fun _ _ z => z
        rw [if_pos h3.1]
        exact ih (k + 1) _ M3 (by omega) (by omega) h3.2
theorem w_lcT {Ql : List MV → Hm → Prop} {l : List MV} (Inv : Nat → List MV → Hm → Prop) (h0 : Inv 0 [] M)
    (step : ∀ k d acc M, l[k]? = some d → Inv k acc M → wp (g d env M) (fun e1 M1 => wp (c e1 M1) (fun t M2 => if t then wp (e e1 M2) (fun y M3 => acc.length < SL ∧ Inv (k + 1) (acc ++ [y]) M3) (fun _ _ => False) else Inv (k + 1) acc M2) (fun _ _ => False)) (fun _ _ => False))
    (hend : ∀ acc M, Inv l.length acc M → Ql acc M) : wp (lcGo (nT l) g c e env (l.length + 1) 0 [] M) Ql E := by
  refine w_lc0 Inv l.length (fun k acc M _ hk => ⟨l[k]?, rfl, ?_⟩) (fun k d acc M _ hd hi => step k d acc M (Option.some.inj hd) hi) hend _ 0 [] M (by omega) (by omega) h0
  rw [List.getElem?_eq_none_iff]
  omega
theorem w_lcR {Ql : List MV → Hm → Prop} {lo cc : Int} {n : Nat} (Inv : Nat → List MV → Hm → Prop) (h0 : Inv 0 [] M)
    (step : ∀ k acc M, k < n → Inv k acc M → wp (g (.int (lo + k * cc)) env M) (fun e1 M1 => wp (c e1 M1) (fun t M2 => if t then wp (e e1 M2) (fun y M3 => acc.length < SL ∧ Inv (k + 1) (acc ++ [y]) M3) (fun _ _ => False) else Inv (k + 1) acc M2) (fun _ _ => False)) (fun _ _ => False))
    (hend : ∀ acc M, Inv n acc M → Ql acc M) : wp (lcGo (nR lo cc n) g c e env (n + 1) 0 [] M) Ql E := by
  refine w_lc0 Inv n (fun k acc M _ hk => ⟨_, rfl, ?_⟩) (fun k d acc M hk hd hi => ?_) hend _ 0 [] M (by omega) (by omega) h0
  · by_cases h : k < n
    · rw [if_pos h]
      constructor
      · intro z; cases z
      · intro z; omega
    · rw [if_neg h]
      constructor
      · intro _; omega
      · intro _; rfl
  · unfold nR at hd
    rw [if_pos hk] at hd
    cases hd
    exact step k acc M hk hi
end
/-! ### defs -/
theorem w_run {tab : Nat → Option Df} {n f : Nat} {ds : List MV} {M : Hm} {Q : MV → Hm → Prop} {E : MX → Hm → Prop} {d : Df} (h : tab f = some d) (hl : ds.length = d.np)
    (hb : wpS (d.bd (run tab n) (ds.map some ++ List.replicate (d.ns - d.np) none) M) (fun o _ M1 => match o with
      | .nx => Q .non M1
      | .ret v => Q v M1
      | _ => False) (fun x _ M1 => E x M1)) : wp (run tab (n + 1) f ds M) Q E := by
  show wp (match tab f with
    | some d => callD d (run tab n) ds M
    | none => .bad) Q E
  rw [h]
  show wp (callD d (run tab n) ds M) Q E
  unfold callD
  rw [if_pos hl]
  cases hr : d.bd (run tab n) (ds.map some ++ List.replicate (d.ns - d.np) none) M with
  | ok o e1 M1 =>
    rw [hr] at hb
    cases o <;> exact hb
  | exc x e1 M1 => rw [hr] at hb; exact hb
  | bad => rw [hr] at hb; exact hb
/-! ### the heap grows -/
/-- a block by what stands behind its first statement -/
theorem wS_cut {Q : O → Env → Hm → Prop} {E : MX → Env → Hm → Prop} {M : Hm} {env : Env} {a b : Fs} (P : Env → Hm → Prop) (h1 : wpS (a env M) (fun o e1 M1 => match o with | .nx => P e1 M1 | o => Q o e1 M1) E)
    (h2 : ∀ e1 M1, P e1 M1 → wpS (b e1 M1) Q E) : wpS (sSeq a b env M) Q E := by
  rw [wS_seq]
  refine wpS_mono h1 (fun o e1 M1 h => ?_) fun _ _ _ h => h
  cases o <;> first | exact h2 _ _ h | exact h
/-! ### limits -/
end D
/-- what must hold ahead: not to be seen through -/
structure wp {α : Type} (r : R α) (Q : α → Hm → Prop) (E : MX → Hm → Prop) : Prop where
  out : D.wp r Q E
structure wpS (r : RS) (Q : O → Env → Hm → Prop) (E : MX → Env → Hm → Prop) : Prop where
  out : D.wpS r Q E
theorem wp_eq {α : Type} {r : R α} {Q : α → Hm → Prop} {E : MX → Hm → Prop} : wp r Q E = D.wp r Q E := propext ⟨fun h => h.out, fun h => ⟨h⟩⟩
theorem wpS_eq {r : RS} {Q : O → Env → Hm → Prop} {E : MX → Env → Hm → Prop} : wpS r Q E = D.wpS r Q E := propext ⟨fun h => h.out, fun h => ⟨h⟩⟩
section
variable {α β : Type}
theorem wp_mono {r : R α} {Q Q' : α → Hm → Prop} {E E' : MX → Hm → Prop} (h : wp r Q E) (hq : ∀ a M, Q a M → Q' a M) (he : ∀ x M, E x M → E' x M) : wp r Q' E' := by
  simp only [wp_eq, wpS_eq] at *
  first | exact D.wp_mono | (apply D.wp_mono <;> assumption)
theorem wpS_mono {r : RS} {Q Q' : O → Env → Hm → Prop} {E E' : MX → Env → Hm → Prop} (h : wpS r Q E) (hq : ∀ o e M, Q o e M → Q' o e M) (he : ∀ x e M, E x e M → E' x e M) : wpS r Q' E' := by
  simp only [wp_eq, wpS_eq] at *
  first | exact D.wpS_mono | (apply D.wpS_mono <;> assumption)
theorem wp_ok_of {r : R α} {Q : α → Hm → Prop} (h : wp r Q fun _ _ => False) : ∃ a M, r = .ok a M ∧ Q a M := by
  simp only [wp_eq, wpS_eq] at *
  exact D.wp_ok_of h
variable {Q : α → Hm → Prop} {Qb : β → Hm → Prop} {E : MX → Hm → Prop} {M : Hm} {env : Env}
@[simp ↓] theorem wp_ok {a : α} : wp (.ok a M) Q E = Q a M := by
  simp only [wp_eq, wpS_eq] at *
  first | exact D.wp_ok | (apply D.wp_ok <;> assumption)
@[simp ↓] theorem wp_exc {x : MX} : wp (.exc x M) Q E = E x M := by
  simp only [wp_eq, wpS_eq] at *
  first | exact D.wp_exc | (apply D.wp_exc <;> assumption)
@[simp ↓] theorem wp_bad : wp .bad Q E = False := by
  simp only [wp_eq, wpS_eq] at *
  first | exact D.wp_bad | (apply D.wp_bad <;> assumption)
@[simp ↓] theorem wp_bind {r : R α} {f : α → Hm → R β} : wp (r.bind f) Qb E = wp r (fun a M => wp (f a M) Qb E) E := by
  simp only [wp_eq, wpS_eq] at *
  first | exact D.wp_bind | (apply D.wp_bind <;> assumption)
@[simp ↓] theorem wp_bindN {r : R α} {f : α → Hm → R β} : wp (r.bindN f) Qb E = wp r (fun a M => wp (f a M) Qb E) (fun _ _ => False) := by
  simp only [wp_eq, wpS_eq] at *
  first | exact D.wp_bindN | (apply D.wp_bindN <;> assumption)
theorem wp_ite {c : Prop} [Decidable c] {a b : R α} : wp (if c then a else b) Q E = if c then wp a Q E else wp b Q E := by
  simp only [wp_eq, wpS_eq]
  exact D.wp_ite
end
/-! ### readers: one step at the head, the rest unseen -/
section
variable {M : Hm} {F : Bool → Prop}
end
section
variable {Q : MV → Hm → Prop} {Qb : Bool → Hm → Prop} {Ql : List MV → Hm → Prop} {E : MX → Hm → Prop} {M : Hm} {env : Env} {a b : Fe} {t : Fa} {c d : Ft}
@[simp ↓] theorem w_var {i : Nat} : wp (eVar i env M) Q E = rdE env i (fun d => Q d M) := by
  simp only [wp_eq, wpS_eq] at *
  first | exact D.w_var | (apply D.w_var <;> assumption)
@[simp ↓] theorem w_c {d : MV} : wp (eC d env M) Q E = Q d M := by
  simp only [wp_eq, wpS_eq] at *
  first | exact D.w_c | (apply D.w_c <;> assumption)
@[simp ↓] theorem w_op {f : MV → MV → Hm → R MV} : wp (eOp f a b env M) Q E = wp (a env M) (fun x M1 => wp (b env M1) (fun y M2 => wp (f x y M2) Q E) E) E := by
  simp only [wp_eq, wpS_eq] at *
  first | exact D.w_op | (apply D.w_op <;> assumption)
@[simp ↓] theorem w_un {f : MV → Hm → R MV} : wp (eUn f a env M) Q E = wp (a env M) (fun x M1 => wp (f x M1) Q E) E := by
  simp only [wp_eq, wpS_eq] at *
  first | exact D.w_un | (apply D.w_un <;> assumption)
@[simp ↓] theorem w_aNil : wp (aNil env M) Ql E = Ql [] M := by
  simp only [wp_eq, wpS_eq] at *
  first | exact D.w_aNil | (apply D.w_aNil <;> assumption)
@[simp ↓] theorem w_aCons : wp (aCons a t env M) Ql E = wp (a env M) (fun x M1 => wp (t env M1) (fun xs M2 => Ql (x :: xs) M2) E) E := by
  simp only [wp_eq, wpS_eq] at *
  first | exact D.w_aCons | (apply D.w_aCons <;> assumption)
@[simp ↓] theorem w_tup : wp (eTup t env M) Q E = wp (t env M) (fun xs M1 => ((xs.length ≤ SL) ∧ (Q (.tup xs) M1))) E := by
  simp only [wp_eq, wpS_eq, ifB_eq] at *
  first | exact D.w_tup | exact (D.w_tup).trans (by simp only [ite_and]) | (rw [D.w_tup]; simp only [ite_and]; done) | (apply D.w_tup <;> assumption)
@[simp ↓] theorem w_lst : wp (eLst t env M) Q E = wp (t env M) (fun xs M1 => ((xs.length ≤ SL) ∧ (Q (.ref M1.length) (M1 ++ [.lst xs])))) E := by
  simp only [wp_eq, wpS_eq, ifB_eq] at *
  first | exact D.w_lst | exact (D.w_lst).trans (by simp only [ite_and]) | (rw [D.w_lst]; simp only [ite_and]; done) | (apply D.w_lst <;> assumption)
@[simp ↓] theorem w_fn {f : List MV → Hm → R MV} : wp (eFn f t env M) Q E = wp (t env M) (fun xs M1 => wp (f xs M1) Q E) E := by
  simp only [wp_eq, wpS_eq] at *
  first | exact D.w_fn | (apply D.w_fn <;> assumption)
@[simp ↓] theorem w_call {G : Ga} {f : Nat} : wp (eCall G f t env M) Q E = wp (t env M) (fun xs M1 => wp (G f xs M1) Q E) E := by
  simp only [wp_eq, wpS_eq] at *
  first | exact D.w_call | (apply D.w_call <;> assumption)
@[simp ↓] theorem w_met {ty : Ty} {f : MV → List MV → Hm → R MV} : wp (eMet ty f a t env M) Q E = wp (a env M) (fun x M1 => rdTy M1 ty x (wp (t env M1) (fun xs M2 => wp (f x xs M2) Q E) E)) E := by
  simp only [wp_eq, wpS_eq] at *
  first | exact D.w_met | (apply D.w_met <;> assumption)
@[simp ↓] theorem w_if : wp (eIf c a b env M) Q E = wp (c env M) (fun k M1 => ifB (k) (wp (a env M1) Q E) (wp (b env M1) Q E)) E := by
  simp only [wp_eq, wpS_eq, ifB_eq] at *
  first | exact D.w_if | exact (D.w_if).trans (by simp only [ite_and]) | (rw [D.w_if]; simp only [ite_and]; done) | (apply D.w_if <;> assumption)
@[simp ↓] theorem w_and : wp (eAnd a b env M) Q E = wp (a env M) (fun x M1 => match x with | .bl k => ifB (k) (wp (b env M1) Q E) (Q (.bl false) M1) | _ => False) E := by
  simp only [wp_eq, wpS_eq, ifB_eq] at *
  first | exact D.w_and | exact (D.w_and).trans (by simp only [ite_and]) | (rw [D.w_and]; simp only [ite_and]; done) | (apply D.w_and <;> assumption)
@[simp ↓] theorem w_or : wp (eOr a b env M) Q E = wp (a env M) (fun x M1 => match x with | .bl k => ifB (k) (Q (.bl true) M1) (wp (b env M1) Q E) | _ => False) E := by
  simp only [wp_eq, wpS_eq, ifB_eq] at *
  first | exact D.w_or | exact (D.w_or).trans (by simp only [ite_and]) | (rw [D.w_or]; simp only [ite_and]; done) | (apply D.w_or <;> assumption)
@[simp ↓] theorem w_t : wp (eT c env M) Q E = wp (c env M) (fun k M1 => Q (.bl k) M1) E := by
  simp only [wp_eq, wpS_eq] at *
  first | exact D.w_t | (apply D.w_t <;> assumption)
@[simp ↓] theorem w_v : wp (cV a env M) Qb E = wp (a env M) (fun x M1 => rdT M1 x fun k => Qb k M1) E := by
  simp only [wp_eq, wpS_eq] at *
  first | exact D.w_v | (apply D.w_v <;> assumption)
@[simp ↓] theorem w_b : wp (cB a env M) Qb E = wp (a env M) (fun x M1 => match x with | .bl k => Qb k M1 | _ => False) E := by
  simp only [wp_eq, wpS_eq] at *
  first | exact D.w_b | (apply D.w_b <;> assumption)
@[simp ↓] theorem w_cAnd : wp (cAnd c d env M) Qb E = wp (c env M) (fun k M1 => ifB (k) (wp (d env M1) Qb E) (Qb false M1)) E := by
  simp only [wp_eq, wpS_eq, ifB_eq] at *
  first | exact D.w_cAnd | exact (D.w_cAnd).trans (by simp only [ite_and]) | (rw [D.w_cAnd]; simp only [ite_and]; done) | (apply D.w_cAnd <;> assumption)
@[simp ↓] theorem w_cOr : wp (cOr c d env M) Qb E = wp (c env M) (fun k M1 => ifB (k) (Qb true M1) (wp (d env M1) Qb E)) E := by
  simp only [wp_eq, wpS_eq, ifB_eq] at *
  first | exact D.w_cOr | exact (D.w_cOr).trans (by simp only [ite_and]) | (rw [D.w_cOr]; simp only [ite_and]; done) | (apply D.w_cOr <;> assumption)
@[simp ↓] theorem w_cNot : wp (cNot c env M) Qb E = wp (c env M) (fun k M1 => Qb (!k) M1) E := by
  simp only [wp_eq, wpS_eq] at *
  first | exact D.w_cNot | (apply D.w_cNot <;> assumption)
@[simp ↓] theorem w_cYes : wp (cYes env M) Qb E = Qb true M := by
  simp only [wp_eq, wpS_eq] at *
  first | exact D.w_cYes | (apply D.w_cYes <;> assumption)
/-! operations -/
@[simp ↓] theorem w_addI {i j : Int} : wp (fAdd (.int i) (.int j) M) Q E = Q (.int (i + j)) M := by
  simp only [wp_eq, wpS_eq] at *
  first | exact D.w_addI | (apply D.w_addI <;> assumption)
@[simp ↓] theorem w_addS {s t : Tx} : wp (fAdd (.str s) (.str t) M) Q E = ((s.length + t.length ≤ SL) ∧ (Q (.str (s ++ t)) M)) := by
  simp only [wp_eq, wpS_eq, ifB_eq] at *
  first | exact D.w_addS | exact (D.w_addS).trans (by simp only [ite_and]) | (rw [D.w_addS]; simp only [ite_and]; done) | (apply D.w_addS <;> assumption)
@[simp ↓] theorem w_addT {s t : List MV} : wp (fAdd (.tup s) (.tup t) M) Q E = ((s.length + t.length ≤ SL) ∧ (Q (.tup (s ++ t)) M)) := by
  simp only [wp_eq, wpS_eq, ifB_eq] at *
  first | exact D.w_addT | exact (D.w_addT).trans (by simp only [ite_and]) | (rw [D.w_addT]; simp only [ite_and]; done) | (apply D.w_addT <;> assumption)
theorem w_addL {i j : Nat} {s t : List MV} (hi : M[i]? = some (.lst s)) (hj : M[j]? = some (.lst t)) : wp (fAdd (.ref i) (.ref j) M) Q E = ((s.length + t.length ≤ SL) ∧ (Q (.ref M.length) (M ++ [.lst (s ++ t)]))) := by
  simp only [wp_eq]
  rw [D.w_addL hi hj, ite_and]
@[simp ↓] theorem w_iaddI {i j : Int} : wp (fIAdd (.int i) (.int j) M) Q E = Q (.int (i + j)) M := by
  simp only [wp_eq, wpS_eq] at *
  first | exact D.w_iaddI | (apply D.w_iaddI <;> assumption)
@[simp ↓] theorem w_iaddS {s t : Tx} : wp (fIAdd (.str s) (.str t) M) Q E = ((s.length + t.length ≤ SL) ∧ (Q (.str (s ++ t)) M)) := by
  simp only [wp_eq, wpS_eq, ifB_eq] at *
  first | exact D.w_iaddS | exact (D.w_iaddS).trans (by simp only [ite_and]) | (rw [D.w_iaddS]; simp only [ite_and]; done) | (apply D.w_iaddS <;> assumption)
@[simp ↓] theorem w_subI {i j : Int} : wp (fSub (.int i) (.int j) M) Q E = Q (.int (i - j)) M := by
  simp only [wp_eq, wpS_eq] at *
  first | exact D.w_subI | (apply D.w_subI <;> assumption)
@[simp ↓] theorem w_mulI {i j : Int} : wp (fMul (.int i) (.int j) M) Q E = ((cMul i j) ∧ (Q (.int (i * j)) M)) := by
  simp only [wp_eq, wpS_eq, ifB_eq] at *
  first | exact D.w_mulI | exact (D.w_mulI).trans (by simp only [ite_and]) | (rw [D.w_mulI]; simp only [ite_and]; done) | (apply D.w_mulI <;> assumption)
@[simp ↓] theorem w_divI {i j : Int} : wp (fDiv (.int i) (.int j) M) Q E = ((cDiv i j) ∧ (Q (.int (i / j)) M)) := by
  simp only [wp_eq, wpS_eq, ifB_eq] at *
  first | exact D.w_divI | exact (D.w_divI).trans (by simp only [ite_and]) | (rw [D.w_divI]; simp only [ite_and]; done) | (apply D.w_divI <;> assumption)
@[simp ↓] theorem w_modI {i j : Int} : wp (fMod (.int i) (.int j) M) Q E = ((cMod i j) ∧ (Q (.int (i % j)) M)) := by
  simp only [wp_eq, wpS_eq, ifB_eq] at *
  first | exact D.w_modI | exact (D.w_modI).trans (by simp only [ite_and]) | (rw [D.w_modI]; simp only [ite_and]; done) | (apply D.w_modI <;> assumption)
@[simp ↓] theorem w_powI {i j : Int} : wp (fPow (.int i) (.int j) M) Q E = ((cPow i j) ∧ (Q (.int (i ^ j.toNat)) M)) := by
  simp only [wp_eq, wpS_eq, ifB_eq] at *
  first | exact D.w_powI | exact (D.w_powI).trans (by simp only [ite_and]) | (rw [D.w_powI]; simp only [ite_and]; done) | (apply D.w_powI <;> assumption)
@[simp ↓] theorem w_negI {i : Int} : wp (fNeg (.int i) M) Q E = Q (.int (-i)) M := by
  simp only [wp_eq, wpS_eq] at *
  first | exact D.w_negI | (apply D.w_negI <;> assumption)
@[simp ↓] theorem w_ltI {i j : Int} : wp (fLt (.int i) (.int j) M) Q E = Q (.bl (decide (i < j))) M := by
  simp only [wp_eq, wpS_eq] at *
  first | exact D.w_ltI | (apply D.w_ltI <;> assumption)
@[simp ↓] theorem w_leI {i j : Int} : wp (fLe (.int i) (.int j) M) Q E = Q (.bl (decide (i ≤ j))) M := by
  simp only [wp_eq, wpS_eq] at *
  first | exact D.w_leI | (apply D.w_leI <;> assumption)
@[simp ↓] theorem w_gtI {i j : Int} : wp (fGt (.int i) (.int j) M) Q E = Q (.bl (decide (j < i))) M := by
  simp only [wp_eq, wpS_eq] at *
  first | exact D.w_gtI | (apply D.w_gtI <;> assumption)
@[simp ↓] theorem w_geI {i j : Int} : wp (fGe (.int i) (.int j) M) Q E = Q (.bl (decide (j ≤ i))) M := by
  simp only [wp_eq, wpS_eq] at *
  first | exact D.w_geI | (apply D.w_geI <;> assumption)
@[simp ↓] theorem w_ltS {i j : Tx} : wp (fLt (.str i) (.str j) M) Q E = Q (.bl (decide (i < j))) M := by
  simp only [wp_eq, wpS_eq] at *
  first | exact D.w_ltS | (apply D.w_ltS <;> assumption)
@[simp ↓] theorem w_gtS {i j : Tx} : wp (fGt (.str i) (.str j) M) Q E = Q (.bl (decide (j < i))) M := by
  simp only [wp_eq, wpS_eq] at *
  first | exact D.w_gtS | (apply D.w_gtS <;> assumption)
@[simp ↓] theorem w_eqI {i j : Int} {g : Bool → Bool} : wp (fEqG g (.int i) (.int j) M) Q E = Q (.bl (g (decide (i = j)))) M := by
  simp only [wp_eq, wpS_eq] at *
  first | exact D.w_eqI | (apply D.w_eqI <;> assumption)
@[simp ↓] theorem w_eqS {i j : Tx} {g : Bool → Bool} : wp (fEqG g (.str i) (.str j) M) Q E = Q (.bl (g (decide (i = j)))) M := by
  simp only [wp_eq, wpS_eq] at *
  first | exact D.w_eqS | (apply D.w_eqS <;> assumption)
@[simp ↓] theorem w_eqB {i j : Bool} {g : Bool → Bool} : wp (fEqG g (.bl i) (.bl j) M) Q E = Q (.bl (g (decide (i = j)))) M := by
  simp only [wp_eq, wpS_eq] at *
  first | exact D.w_eqB | (apply D.w_eqB <;> assumption)
@[simp ↓] theorem w_eqIS {i : Int} {j : Tx} {g : Bool → Bool} : wp (fEqG g (.int i) (.str j) M) Q E = Q (.bl (g false)) M := by
  simp only [wp_eq, wpS_eq] at *
  first | exact D.w_eqIS | (apply D.w_eqIS <;> assumption)
@[simp ↓] theorem w_eqSI {i : Int} {j : Tx} {g : Bool → Bool} : wp (fEqG g (.str j) (.int i) M) Q E = Q (.bl (g false)) M := by
  simp only [wp_eq, wpS_eq] at *
  first | exact D.w_eqSI | (apply D.w_eqSI <;> assumption)
theorem w_eq {x y : MV} {g : Bool → Bool} {b : Bool} (h : eqM M x y = some b) : wp (fEqG g x y M) Q E = Q (.bl (g b)) M := by
  simp only [wp_eq, wpS_eq] at *
  first | exact D.w_eq | (apply D.w_eq <;> assumption)
@[simp ↓] theorem w_inS {c : Nat} {t : Tx} {g : Bool → Bool} : wp (fInG g (.str [c]) (.str t) M) Q E = Q (.bl (g (decide (c ∈ t)))) M := by
  simp only [wp_eq, wpS_eq] at *
  first | exact D.w_inS | (apply D.w_inS <;> assumption)
@[simp ↓] theorem w_ixT {l : List MV} {i : Int} : wp (fIx (.tup l) (.int i) M) Q E = rdI l i (fun d => Q d M) := by
  simp only [wp_eq, wpS_eq] at *
  first | exact D.w_ixT | (apply D.w_ixT <;> assumption)
@[simp ↓] theorem w_ixR {l : List MV} {i : Int} : wp (fIx (.rol l) (.int i) M) Q E = rdI l i (fun d => Q d M) := by
  simp only [wp_eq, wpS_eq] at *
  first | exact D.w_ixR | (apply D.w_ixR <;> assumption)
@[simp ↓] theorem w_ixS {s : Tx} {i : Int} : wp (fIx (.str s) (.int i) M) Q E = ((s.length ≤ SL) ∧ (rdI s i (fun c => Q (.str [c]) M))) := by
  simp only [wp_eq, wpS_eq, ifB_eq] at *
  first | exact D.w_ixS | exact (D.w_ixS).trans (by simp only [ite_and]) | (rw [D.w_ixS]; simp only [ite_and]; done) | (apply D.w_ixS <;> assumption)
@[simp ↓] theorem w_ixL {k : Nat} {i : Int} : wp (fIx (.ref k) (.int i) M) Q E = rdL M k (fun l => rdI l i (fun d => Q d M)) := by
  simp only [wp_eq, wpS_eq] at *
  first | exact D.w_ixL | (apply D.w_ixL <;> assumption)
@[simp ↓] theorem w_sl {f : MV → Option Int → Option Int → Hm → R MV} {lo hi : Fo} : wp (eSl f a lo hi env M) Q E = wp (a env M) (fun x M1 => wp (lo env M1) (fun l M2 => wp (hi env M2) (fun u M3 => wp (f x l u M3) Q E) E) E) E := by
  simp only [wp_eq, wpS_eq] at *
  first | exact D.w_sl | (apply D.w_sl <;> assumption)
@[simp ↓] theorem w_oN {Qo : Option Int → Hm → Prop} : wp (oNone env M) Qo E = Qo none M := by
  simp only [wp_eq, wpS_eq] at *
  first | exact D.w_oN | (apply D.w_oN <;> assumption)
@[simp ↓] theorem w_oS {Qo : Option Int → Hm → Prop} : wp (oSome a env M) Qo E = wp (a env M) (fun x M1 => match x with | .int i => Qo (some i) M1 | _ => False) E := by
  simp only [wp_eq, wpS_eq] at *
  first | exact D.w_oS | (apply D.w_oS <;> assumption)
@[simp ↓] theorem w_slT {l : List MV} {lo hi : Option Int} : wp (fSl (.tup l) lo hi M) Q E = Q (.tup (cut l lo hi)) M := by
  simp only [wp_eq, wpS_eq] at *
  first | exact D.w_slT | (apply D.w_slT <;> assumption)
@[simp ↓] theorem w_slS {s : Tx} {lo hi : Option Int} : wp (fSl (.str s) lo hi M) Q E = ((s.length ≤ SL) ∧ (Q (.str (cut s lo hi)) M)) := by
  simp only [wp_eq, wpS_eq, ifB_eq] at *
  first | exact D.w_slS | exact (D.w_slS).trans (by simp only [ite_and]) | (rw [D.w_slS]; simp only [ite_and]; done) | (apply D.w_slS <;> assumption)
@[simp ↓] theorem w_lenS {s : Tx} : wp (fLen [.str s] M) Q E = ((s.length ≤ SL) ∧ (Q (.int s.length) M)) := by
  simp only [wp_eq, wpS_eq, ifB_eq] at *
  first | exact D.w_lenS | exact (D.w_lenS).trans (by simp only [ite_and]) | (rw [D.w_lenS]; simp only [ite_and]; done) | (apply D.w_lenS <;> assumption)
@[simp ↓] theorem w_lenT {s : List MV} : wp (fLen [.tup s] M) Q E = Q (.int s.length) M := by
  simp only [wp_eq, wpS_eq] at *
  first | exact D.w_lenT | (apply D.w_lenT <;> assumption)
@[simp ↓] theorem w_lenR {s : List MV} : wp (fLen [.rol s] M) Q E = Q (.int s.length) M := by
  simp only [wp_eq, wpS_eq] at *
  first | exact D.w_lenR | (apply D.w_lenR <;> assumption)
@[simp ↓] theorem w_lenL {k : Nat} : wp (fLen [.ref k] M) Q E = rdL M k (fun l => Q (.int l.length) M) := by
  simp only [wp_eq, wpS_eq] at *
  first | exact D.w_lenL | (apply D.w_lenL <;> assumption)
@[simp ↓] theorem w_str {i : Int} : wp (fStr [.int i] M) Q E = ((i.natAbs.log2 < 1920) ∧ (Q (.str (numT i)) M)) := by
  simp only [wp_eq, wpS_eq, ifB_eq] at *
  first | exact D.w_str | exact (D.w_str).trans (by simp only [ite_and]) | (rw [D.w_str]; simp only [ite_and]; done) | (apply D.w_str <;> assumption)
@[simp ↓] theorem w_intI {i : Int} : wp (fIntOf [.int i] M) Q E = Q (.int i) M := by
  simp only [wp_eq, wpS_eq] at *
  first | exact D.w_intI | (apply D.w_intI <;> assumption)
@[simp ↓] theorem w_intS {s : Tx} : wp (fIntOf [.str s] M) Q E = ((allDig s && !s.isEmpty && decide (s.length ≤ 640)) ∧ (Q (.int (PySem.NumText.digitsVal s : Nat)) M)) := by
  simp only [wp_eq, wpS_eq, ifB_eq] at *
  first | exact D.w_intS | exact (D.w_intS).trans (by simp only [ite_and]) | (rw [D.w_intS]; simp only [ite_and]; done) | (apply D.w_intS <;> assumption)
@[simp ↓] theorem w_abs {i : Int} : wp (fAbs [.int i] M) Q E = Q (.int (i.natAbs : Int)) M := by
  simp only [wp_eq, wpS_eq] at *
  first | exact D.w_abs | (apply D.w_abs <;> assumption)
@[simp ↓] theorem w_ord {c : Nat} : wp (fOrd [.str [c]] M) Q E = Q (.int c) M := by
  simp only [wp_eq, wpS_eq] at *
  first | exact D.w_ord | (apply D.w_ord <;> assumption)
@[simp ↓] theorem w_tupT {l : List MV} : wp (fTuple [.tup l] M) Q E = Q (.tup l) M := by
  simp only [wp_eq, wpS_eq] at *
  first | exact D.w_tupT | (apply D.w_tupT <;> assumption)
@[simp ↓] theorem w_tupR {l : List MV} : wp (fTuple [.rol l] M) Q E = Q (.tup l) M := by
  simp only [wp_eq, wpS_eq] at *
  first | exact D.w_tupR | (apply D.w_tupR <;> assumption)
@[simp ↓] theorem w_tupL {k : Nat} : wp (fTuple [.ref k] M) Q E = rdL M k (fun l => Q (.tup l) M) := by
  simp only [wp_eq, wpS_eq] at *
  first | exact D.w_tupL | (apply D.w_tupL <;> assumption)
@[simp ↓] theorem w_listT {l : List MV} : wp (fList [.tup l] M) Q E = Q (.ref M.length) (M ++ [.lst l]) := by
  simp only [wp_eq, wpS_eq] at *
  first | exact D.w_listT | (apply D.w_listT <;> assumption)
@[simp ↓] theorem w_listR {l : List MV} : wp (fList [.rol l] M) Q E = Q (.ref M.length) (M ++ [.lst l]) := by
  simp only [wp_eq, wpS_eq] at *
  first | exact D.w_listR | (apply D.w_listR <;> assumption)
@[simp ↓] theorem w_listL {k : Nat} : wp (fList [.ref k] M) Q E = rdL M k (fun l => Q (.ref M.length) (M ++ [.lst l])) := by
  simp only [wp_eq, wpS_eq] at *
  first | exact D.w_listL | (apply D.w_listL <;> assumption)
@[simp ↓] theorem w_divmod {i j : Int} : wp (fDivmod [.int i, .int j] M) Q E = ((cDiv i j) ∧ (Q (.tup [.int (i / j), .int (i % j)]) M)) := by
  simp only [wp_eq, wpS_eq, ifB_eq] at *
  first | exact D.w_divmod | exact (D.w_divmod).trans (by simp only [ite_and]) | (rw [D.w_divmod]; simp only [ite_and]; done) | (apply D.w_divmod <;> assumption)
@[simp ↓] theorem w_append {k : Nat} {d : MV} : wp (fAppend (.ref k) [d] M) Q E = rdL M k (fun l => ((l.length < SL) ∧ (Q .non (M.set k (.lst (l ++ [d])))))) := by
  simp only [wp_eq, wpS_eq, ifB_eq] at *
  first | exact D.w_append | exact (D.w_append).trans (by simp only [ite_and]) | (rw [D.w_append]; simp only [ite_and]; done) | (apply D.w_append <;> assumption)
@[simp ↓] theorem w_pop {k : Nat} : wp (fPop (.ref k) [] M) Q E = rdL M k (fun l => rdO l[l.length - 1]? fun d => Q d (M.set k (.lst l.dropLast))) := by
  simp only [wp_eq, wpS_eq] at *
  first | exact D.w_pop | (apply D.w_pop <;> assumption)
@[simp ↓] theorem w_join {k : Nat} {sep : Tx} : wp (fJoin (.str sep) [.ref k] M) Q E = rdL M k (fun l => rdO (textsOf l) fun ss => (((ss.map (·.length)).sum + ss.length * sep.length ≤ SL) ∧ (Q (.str (joinT sep ss)) M))) := by
  simp only [wp_eq, wpS_eq, ifB_eq] at *
  first | exact D.w_join | exact (D.w_join).trans (by simp only [ite_and]) | (rw [D.w_join]; simp only [ite_and]; done) | (apply D.w_join <;> assumption)
@[simp ↓] theorem w_rev {k : Nat} : wp (fRev (.ref k) M) Q E = rdL M k (fun l => Q (.ref M.length) (M ++ [.lst l.reverse])) := by
  simp only [wp_eq, wpS_eq] at *
  first | exact D.w_rev | (apply D.w_rev <;> assumption)
@[simp ↓] theorem w_find3 {x y : Tx} {i : Int} : wp (fFind3 (.str x) [.str y, .int i] M) Q E = Q (.int (PySem.Txt.find3 (T x) (T y) i)) M := by
  simp only [wp_eq, wpS_eq] at *
  first | exact D.w_find3 | (apply D.w_find3 <;> assumption)
@[simp ↓] theorem w_zfill {x : Tx} {i : Int} : wp (fZfill (.str x) [.int i] M) Q E = ((PySem.PadOk i && noSign x) ∧ (Q (.str (List.replicate (i.toNat - x.length) 48 ++ x)) M)) := by
  simp only [wp_eq, wpS_eq, ifB_eq] at *
  first | exact D.w_zfill | exact (D.w_zfill).trans (by simp only [ite_and]) | (rw [D.w_zfill]; simp only [ite_and]; done) | (apply D.w_zfill <;> assumption)
@[simp ↓] theorem w_all {k : Nat} {g : List Bool → Bool} : wp (fAllG g [.ref k] M) Q E = rdL M k (fun l => rdO (boolsOf l) fun bs => Q (.bl (g bs)) M) := by
  simp only [wp_eq, wpS_eq] at *
  first | exact D.w_all | (apply D.w_all <;> assumption)
theorem w_isi {x : MV} {c t : String} {k : Bool} (ht : tyN M x = some t) (hk : L2.kitB t c = some k) : wp (fIsi c [x] M) Q E = Q (.bl k) M := by
  simp only [wp_eq, wpS_eq] at *
  first | exact D.w_isi | (apply D.w_isi <;> assumption)
@[simp ↓] theorem w_isi_NoneType_tuple : wp (fIsi "tuple" [.non] M) Q E = Q (.bl false) M := by
  simp only [wp_eq, wpS_eq] at *
  first | exact D.w_isi_NoneType_tuple | (apply D.w_isi_NoneType_tuple <;> assumption)
@[simp ↓] theorem w_isi_NoneType_str : wp (fIsi "str" [.non] M) Q E = Q (.bl false) M := by
  simp only [wp_eq, wpS_eq] at *
  first | exact D.w_isi_NoneType_str | (apply D.w_isi_NoneType_str <;> assumption)
@[simp ↓] theorem w_isi_NoneType_int : wp (fIsi "int" [.non] M) Q E = Q (.bl false) M := by
  simp only [wp_eq, wpS_eq] at *
  first | exact D.w_isi_NoneType_int | (apply D.w_isi_NoneType_int <;> assumption)
@[simp ↓] theorem w_isi_NoneType_bool : wp (fIsi "bool" [.non] M) Q E = Q (.bl false) M := by
  simp only [wp_eq, wpS_eq] at *
  first | exact D.w_isi_NoneType_bool | (apply D.w_isi_NoneType_bool <;> assumption)
@[simp ↓] theorem w_isi_NoneType_list : wp (fIsi "list" [.non] M) Q E = Q (.bl false) M := by
  simp only [wp_eq, wpS_eq] at *
  first | exact D.w_isi_NoneType_list | (apply D.w_isi_NoneType_list <;> assumption)
@[simp ↓] theorem w_isi_NoneType_dict : wp (fIsi "dict" [.non] M) Q E = Q (.bl false) M := by
  simp only [wp_eq, wpS_eq] at *
  first | exact D.w_isi_NoneType_dict | (apply D.w_isi_NoneType_dict <;> assumption)
@[simp ↓] theorem w_isi_bool_tuple {b : Bool} : wp (fIsi "tuple" [(.bl b)] M) Q E = Q (.bl false) M := by
  simp only [wp_eq, wpS_eq] at *
  first | exact D.w_isi_bool_tuple | (apply D.w_isi_bool_tuple <;> assumption)
@[simp ↓] theorem w_isi_bool_str {b : Bool} : wp (fIsi "str" [(.bl b)] M) Q E = Q (.bl false) M := by
  simp only [wp_eq, wpS_eq] at *
  first | exact D.w_isi_bool_str | (apply D.w_isi_bool_str <;> assumption)
@[simp ↓] theorem w_isi_bool_int {b : Bool} : wp (fIsi "int" [(.bl b)] M) Q E = Q (.bl true) M := by
  simp only [wp_eq, wpS_eq] at *
  first | exact D.w_isi_bool_int | (apply D.w_isi_bool_int <;> assumption)
@[simp ↓] theorem w_isi_bool_bool {b : Bool} : wp (fIsi "bool" [(.bl b)] M) Q E = Q (.bl true) M := by
  simp only [wp_eq, wpS_eq] at *
  first | exact D.w_isi_bool_bool | (apply D.w_isi_bool_bool <;> assumption)
@[simp ↓] theorem w_isi_bool_list {b : Bool} : wp (fIsi "list" [(.bl b)] M) Q E = Q (.bl false) M := by
  simp only [wp_eq, wpS_eq] at *
  first | exact D.w_isi_bool_list | (apply D.w_isi_bool_list <;> assumption)
@[simp ↓] theorem w_isi_bool_dict {b : Bool} : wp (fIsi "dict" [(.bl b)] M) Q E = Q (.bl false) M := by
  simp only [wp_eq, wpS_eq] at *
  first | exact D.w_isi_bool_dict | (apply D.w_isi_bool_dict <;> assumption)
@[simp ↓] theorem w_isi_int_tuple {i : Int} : wp (fIsi "tuple" [(.int i)] M) Q E = Q (.bl false) M := by
  simp only [wp_eq, wpS_eq] at *
  first | exact D.w_isi_int_tuple | (apply D.w_isi_int_tuple <;> assumption)
@[simp ↓] theorem w_isi_int_str {i : Int} : wp (fIsi "str" [(.int i)] M) Q E = Q (.bl false) M := by
  simp only [wp_eq, wpS_eq] at *
  first | exact D.w_isi_int_str | (apply D.w_isi_int_str <;> assumption)
@[simp ↓] theorem w_isi_int_int {i : Int} : wp (fIsi "int" [(.int i)] M) Q E = Q (.bl true) M := by
  simp only [wp_eq, wpS_eq] at *
  first | exact D.w_isi_int_int | (apply D.w_isi_int_int <;> assumption)
@[simp ↓] theorem w_isi_int_bool {i : Int} : wp (fIsi "bool" [(.int i)] M) Q E = Q (.bl false) M := by
  simp only [wp_eq, wpS_eq] at *
  first | exact D.w_isi_int_bool | (apply D.w_isi_int_bool <;> assumption)
@[simp ↓] theorem w_isi_int_list {i : Int} : wp (fIsi "list" [(.int i)] M) Q E = Q (.bl false) M := by
  simp only [wp_eq, wpS_eq] at *
  first | exact D.w_isi_int_list | (apply D.w_isi_int_list <;> assumption)
@[simp ↓] theorem w_isi_int_dict {i : Int} : wp (fIsi "dict" [(.int i)] M) Q E = Q (.bl false) M := by
  simp only [wp_eq, wpS_eq] at *
  first | exact D.w_isi_int_dict | (apply D.w_isi_int_dict <;> assumption)
@[simp ↓] theorem w_isi_str_tuple {s : Tx} : wp (fIsi "tuple" [(.str s)] M) Q E = Q (.bl false) M := by
  simp only [wp_eq, wpS_eq] at *
  first | exact D.w_isi_str_tuple | (apply D.w_isi_str_tuple <;> assumption)
@[simp ↓] theorem w_isi_str_str {s : Tx} : wp (fIsi "str" [(.str s)] M) Q E = Q (.bl true) M := by
  simp only [wp_eq, wpS_eq] at *
  first | exact D.w_isi_str_str | (apply D.w_isi_str_str <;> assumption)
@[simp ↓] theorem w_isi_str_int {s : Tx} : wp (fIsi "int" [(.str s)] M) Q E = Q (.bl false) M := by
  simp only [wp_eq, wpS_eq] at *
  first | exact D.w_isi_str_int | (apply D.w_isi_str_int <;> assumption)
@[simp ↓] theorem w_isi_str_bool {s : Tx} : wp (fIsi "bool" [(.str s)] M) Q E = Q (.bl false) M := by
  simp only [wp_eq, wpS_eq] at *
  first | exact D.w_isi_str_bool | (apply D.w_isi_str_bool <;> assumption)
@[simp ↓] theorem w_isi_str_list {s : Tx} : wp (fIsi "list" [(.str s)] M) Q E = Q (.bl false) M := by
  simp only [wp_eq, wpS_eq] at *
  first | exact D.w_isi_str_list | (apply D.w_isi_str_list <;> assumption)
@[simp ↓] theorem w_isi_str_dict {s : Tx} : wp (fIsi "dict" [(.str s)] M) Q E = Q (.bl false) M := by
  simp only [wp_eq, wpS_eq] at *
  first | exact D.w_isi_str_dict | (apply D.w_isi_str_dict <;> assumption)
@[simp ↓] theorem w_isi_tuple_tuple {l : List MV} : wp (fIsi "tuple" [(.tup l)] M) Q E = Q (.bl true) M := by
  simp only [wp_eq, wpS_eq] at *
  first | exact D.w_isi_tuple_tuple | (apply D.w_isi_tuple_tuple <;> assumption)
@[simp ↓] theorem w_isi_tuple_str {l : List MV} : wp (fIsi "str" [(.tup l)] M) Q E = Q (.bl false) M := by
  simp only [wp_eq, wpS_eq] at *
  first | exact D.w_isi_tuple_str | (apply D.w_isi_tuple_str <;> assumption)
@[simp ↓] theorem w_isi_tuple_int {l : List MV} : wp (fIsi "int" [(.tup l)] M) Q E = Q (.bl false) M := by
  simp only [wp_eq, wpS_eq] at *
  first | exact D.w_isi_tuple_int | (apply D.w_isi_tuple_int <;> assumption)
@[simp ↓] theorem w_isi_tuple_bool {l : List MV} : wp (fIsi "bool" [(.tup l)] M) Q E = Q (.bl false) M := by
  simp only [wp_eq, wpS_eq] at *
  first | exact D.w_isi_tuple_bool | (apply D.w_isi_tuple_bool <;> assumption)
@[simp ↓] theorem w_isi_tuple_list {l : List MV} : wp (fIsi "list" [(.tup l)] M) Q E = Q (.bl false) M := by
  simp only [wp_eq, wpS_eq] at *
  first | exact D.w_isi_tuple_list | (apply D.w_isi_tuple_list <;> assumption)
@[simp ↓] theorem w_isi_tuple_dict {l : List MV} : wp (fIsi "dict" [(.tup l)] M) Q E = Q (.bl false) M := by
  simp only [wp_eq, wpS_eq] at *
  first | exact D.w_isi_tuple_dict | (apply D.w_isi_tuple_dict <;> assumption)
end

/-! ### targets -/
section
variable {Q : Env → Hm → Prop} {E : MX → Hm → Prop} {M : Hm} {env : Env}
@[simp ↓] theorem w_gN {i : Nat} {d : MV} : wp (gN i d env M) Q E = Q (env.set i (some d)) M := by
  simp only [wp_eq, wpS_eq] at *
  first | exact D.w_gN | (apply D.w_gN <;> assumption)
@[simp ↓] theorem w_gT {n : Nat} {r : Ftgs} {l : List MV} : wp (gT n r (.tup l) env M) Q E = ((l.length = n) ∧ (wp (r l env M) Q E)) := by
  simp only [wp_eq, wpS_eq, ifB_eq] at *
  first | exact D.w_gT | exact (D.w_gT).trans (by simp only [ite_and]) | (rw [D.w_gT]; simp only [ite_and]; done) | (apply D.w_gT <;> assumption)
@[simp ↓] theorem w_gsNil : wp (gsNil [] env M) Q E = Q env M := by
  simp only [wp_eq, wpS_eq] at *
  first | exact D.w_gsNil | (apply D.w_gsNil <;> assumption)
@[simp ↓] theorem w_gsCons {g : Ftg} {r : Ftgs} {d : MV} {ds : List MV} : wp (gsCons g r (d :: ds) env M) Q E = wp (g d env M) (fun e1 M1 => wp (r ds e1 M1) Q E) E := by
  simp only [wp_eq, wpS_eq] at *
  first | exact D.w_gsCons | (apply D.w_gsCons <;> assumption)
@[simp ↓] theorem w_gIx {f : MV → MV → MV → Hm → R MV} {a b : Fe} {d : MV} : wp (gIx f a b d env M) Q E = wp (a env M) (fun x M1 => wp (b env M1) (fun y M2 => wp (f x y d M2) (fun _ M3 => Q env M3) (fun _ _ => False)) (fun _ _ => False)) (fun _ _ => False) := by
  simp only [wp_eq, wpS_eq] at *
  first | exact D.w_gIx | (apply D.w_gIx <;> assumption)
section
variable {Q : MV → Hm → Prop}
@[simp ↓] theorem w_setL {k : Nat} {i : Int} {d : MV} : wp (fSetL (.ref k) (.int i) d M) Q E = rdL M k (fun l => rdX l.length i fun j => Q .non (M.set k (.lst (l.set j d)))) := by
  simp only [wp_eq, wpS_eq] at *
  first | exact D.w_setL | (apply D.w_setL <;> assumption)
end
end

/-! ### statements -/
section
variable {Q : O → Env → Hm → Prop} {E : MX → Env → Hm → Prop} {M : Hm} {env : Env} {a b : Fs} {e : Fe} {c : Ft}
@[simp ↓] theorem wS_ok {o : O} : wpS (.ok o env M) Q E = Q o env M := by
  simp only [wp_eq, wpS_eq] at *
  first | exact D.wS_ok | (apply D.wS_ok <;> assumption)
@[simp ↓] theorem wS_exc {x : MX} : wpS (.exc x env M) Q E = E x env M := by
  simp only [wp_eq, wpS_eq] at *
  first | exact D.wS_exc | (apply D.wS_exc <;> assumption)
@[simp ↓] theorem wS_bad : wpS .bad Q E = False := by
  simp only [wp_eq, wpS_eq] at *
  first | exact D.wS_bad | (apply D.wS_bad <;> assumption)
theorem wS_ite {c : Prop} [Decidable c] {a b : RS} : wpS (if c then a else b) Q E = if c then wpS a Q E else wpS b Q E := by
  simp only [wp_eq, wpS_eq]
  exact D.wS_ite
@[simp ↓] theorem wS_st {α : Type} {r : R α} {f : α → Hm → RS} : wpS (r.st env f) Q E = wp r (fun a M1 => wpS (f a M1) Q E) (fun x M1 => E x env M1) := by
  simp only [wp_eq, wpS_eq] at *
  first | exact D.wS_st | (apply D.wS_st <;> assumption)
@[simp ↓] theorem wS_nx : wpS (sNx env M) Q E = Q .nx env M := by
  simp only [wp_eq, wpS_eq] at *
  first | exact D.wS_nx | (apply D.wS_nx <;> assumption)
@[simp ↓] theorem wS_brk : wpS (sBrk env M) Q E = Q .brk env M := by
  simp only [wp_eq, wpS_eq] at *
  first | exact D.wS_brk | (apply D.wS_brk <;> assumption)
@[simp ↓] theorem wS_cnt : wpS (sCnt env M) Q E = Q .cnt env M := by
  simp only [wp_eq, wpS_eq] at *
  first | exact D.wS_cnt | (apply D.wS_cnt <;> assumption)
@[simp ↓] theorem wS_seq : wpS (sSeq a b env M) Q E = wpS (a env M) (fun o e1 M1 => match o with | .nx => wpS (b e1 M1) Q E | o => Q o e1 M1) E := by
  simp only [wp_eq, wpS_eq] at *
  first | exact D.wS_seq | (apply D.wS_seq <;> assumption)
@[simp ↓] theorem wS_set {i : Nat} : wpS (sSet i e env M) Q E = wp (e env M) (fun d M1 => Q .nx (env.set i (some d)) M1) (fun x M1 => E x env M1) := by
  simp only [wp_eq, wpS_eq] at *
  first | exact D.wS_set | (apply D.wS_set <;> assumption)
@[simp ↓] theorem wS_asg {g : Ftg} : wpS (sAsg g e env M) Q E = wp (e env M) (fun d M1 => wp (g d env M1) (fun e1 M2 => Q .nx e1 M2) (fun x M2 => E x env M2)) (fun x M1 => E x env M1) := by
  simp only [wp_eq, wpS_eq] at *
  first | exact D.wS_asg | (apply D.wS_asg <;> assumption)
@[simp ↓] theorem wS_aug {f : MV → MV → Hm → R MV} {i : Nat} : wpS (sAug f i e env M) Q E = rdE env i (fun x => wp (e env M) (fun y M1 => wp (f x y M1) (fun z M2 => Q .nx (env.set i (some z)) M2) (fun x M2 => E x env M2)) (fun x M1 => E x env M1)) := by
  simp only [wp_eq, wpS_eq] at *
  first | exact D.wS_aug | (apply D.wS_aug <;> assumption)
@[simp ↓] theorem wS_ex : wpS (sEx e env M) Q E = wp (e env M) (fun _ M1 => Q .nx env M1) (fun x M1 => E x env M1) := by
  simp only [wp_eq, wpS_eq] at *
  first | exact D.wS_ex | (apply D.wS_ex <;> assumption)
@[simp ↓] theorem wS_ret : wpS (sRet e env M) Q E = wp (e env M) (fun d M1 => Q (.ret d) env M1) (fun x M1 => E x env M1) := by
  simp only [wp_eq, wpS_eq] at *
  first | exact D.wS_ret | (apply D.wS_ret <;> assumption)
@[simp ↓] theorem wS_retN : wpS (sRetN env M) Q E = Q (.ret .non) env M := by
  simp only [wp_eq, wpS_eq] at *
  first | exact D.wS_retN | (apply D.wS_retN <;> assumption)
@[simp ↓] theorem wS_if : wpS (sIf c a b env M) Q E = wp (c env M) (fun k M1 => ifB (k) (wpS (a env M1) Q E) (wpS (b env M1) Q E)) (fun x M1 => E x env M1) := by
  simp only [wp_eq, wpS_eq, ifB_eq] at *
  first | exact D.wS_if | exact (D.wS_if).trans (by simp only [ite_and]) | (rw [D.wS_if]; simp only [ite_and]; done) | (apply D.wS_if <;> assumption)
@[simp ↓] theorem wS_raise {c : Nat} : wpS (sRaiseC c env M) Q E = E ⟨c, none⟩ env M := by
  simp only [wp_eq, wpS_eq] at *
  first | exact D.wS_raise | (apply D.wS_raise <;> assumption)
@[simp ↓] theorem wS_while : wpS (sWhl c b env M) Q E = wpS (whlGo c b WL env M) Q E := by
  simp only [wp_eq, wpS_eq] at *
  first | exact D.wS_while | (apply D.wS_while <;> assumption)
@[simp ↓] theorem wS_for {it : Fi} {g : Ftg} : wpS (sFor it g b env M) Q E = wp (it env M) (fun p M1 => wpS (forGo p.1 g b p.2 0 env M1) Q E) (fun x M1 => E x env M1) := by
  simp only [wp_eq, wpS_eq] at *
  first | exact D.wS_for | (apply D.wS_for <;> assumption)
theorem wS_try {sub : Nat → Option Bool} {i : Nat} {su : MX → Fs} : wpS (sTryAs a sub i su env M) Q E = wpS (a env M) Q (fun x e1 M1 => match sub x.cls with
    | some true => i < e1.length ∧ wpS (su x (e1.set i none) M1) (fun o e2 M2 => Q o (e2.set i none) M2) (fun _ _ _ => False)
    | some false => E x e1 M1
    | none => False) := by
  simp only [wpS_eq]
  rw [D.wS_try]
  simp only [ite_and]
theorem wS_whl {Q : O → Env → Hm → Prop} {E : MX → Env → Hm → Prop} (Inv : Nat → Env → Hm → Prop)
    (step : ∀ k env M, Inv k env M → wp (c env M) (fun t M1 => ifB (t) (wpS (b env M1) (fun o e2 M2 => match o with
      | .nx => ∃ k', k' < k ∧ Inv k' e2 M2
      | .cnt => ∃ k', k' < k ∧ Inv k' e2 M2
      | .brk => Q .nx e2 M2
      | .ret d => Q (.ret d) e2 M2) E) (Q .nx env M1)) (fun x M1 => E x env M1)) :
    ∀ (n k : Nat) env M, k < n → Inv k env M → wpS (whlGo c b n env M) Q E := by
  simp only [wp_eq, wpS_eq, ifB_eq] at *
  first | exact D.wS_whl | exact (D.wS_whl).trans (by simp only [ite_and]) | (rw [D.wS_whl]; simp only [ite_and]; done) | (apply D.wS_whl <;> assumption)
theorem wS_for0 {Q : O → Env → Hm → Prop} {E : MX → Env → Hm → Prop} {g : Ftg} {ni : Ni} (Inv : Nat → Env → Hm → Prop) (N : Nat)
    (hn : ∀ k env M, Inv k env M → k ≤ N → ∃ o, ni M k = some o ∧ (o = none ↔ k = N))
    (step : ∀ k d env M, k < N → ni M k = some (some d) → Inv k env M → wp (g d env M) (fun e1 M1 => wpS (b e1 M1) (fun o e2 M2 => match o with
      | .nx => Inv (k + 1) e2 M2
      | .cnt => Inv (k + 1) e2 M2
      | .brk => Q .nx e2 M2
      | .ret d => Q (.ret d) e2 M2) E) (fun x M1 => E x env M1))
    (hend : ∀ env M, Inv N env M → Q .nx env M) :
    ∀ (n k : Nat) env M, k + n = N + 1 → k ≤ N → Inv k env M → wpS (forGo ni g b n k env M) Q E := by
  simp only [wp_eq, wpS_eq] at *
  first | exact D.wS_for0 | (apply D.wS_for0 <;> assumption)
theorem wS_forT {Q : O → Env → Hm → Prop} {E : MX → Env → Hm → Prop} {g : Ftg} {l : List MV} (Inv : Nat → Env → Hm → Prop) (h0 : Inv 0 env M)
    (step : ∀ k d env M, l[k]? = some d → Inv k env M → wp (g d env M) (fun e1 M1 => wpS (b e1 M1) (fun o e2 M2 => match o with
      | .nx => Inv (k + 1) e2 M2
      | .cnt => Inv (k + 1) e2 M2
      | .brk => Q .nx e2 M2
      | .ret d => Q (.ret d) e2 M2) E) (fun x M1 => E x env M1))
    (hend : ∀ env M, Inv l.length env M → Q .nx env M) : wpS (forGo (nT l) g b (l.length + 1) 0 env M) Q E := by
  simp only [wp_eq, wpS_eq] at *
  first | exact D.wS_forT | (apply D.wS_forT <;> assumption)
theorem wS_forR {Q : O → Env → Hm → Prop} {E : MX → Env → Hm → Prop} {g : Ftg} {lo c : Int} {n : Nat} (Inv : Nat → Env → Hm → Prop) (h0 : Inv 0 env M)
    (step : ∀ k env M, k < n → Inv k env M → wp (g (.int (lo + k * c)) env M) (fun e1 M1 => wpS (b e1 M1) (fun o e2 M2 => match o with
      | .nx => Inv (k + 1) e2 M2
      | .cnt => Inv (k + 1) e2 M2
      | .brk => Q .nx e2 M2
      | .ret d => Q (.ret d) e2 M2) E) (fun x M1 => E x env M1))
    (hend : ∀ env M, Inv n env M → Q .nx env M) : wpS (forGo (nR lo c n) g b (n + 1) 0 env M) Q E := by
  simp only [wp_eq, wpS_eq] at *
  first | exact D.wS_forR | (apply D.wS_forR <;> assumption)
end
/-! ### what is walked -/
section
variable {Q : Ni × Nat → Hm → Prop} {E : MX → Hm → Prop} {M : Hm} {env : Env} {a : Fe} {t : Fa}
@[simp ↓] theorem w_iRg {f : List MV → Hm → R (Ni × Nat)} : wp (iRg f t env M) Q E = wp (t env M) (fun xs M1 => wp (f xs M1) Q E) E := by
  simp only [wp_eq, wpS_eq] at *
  first | exact D.w_iRg | (apply D.w_iRg <;> assumption)
@[simp ↓] theorem w_rg1 {j : Int} : wp (rg1 [.int j] M) Q E = ((in62 j) ∧ (Q (nR 0 1 j.toNat, j.toNat + 1) M)) := by
  simp only [wp_eq, wpS_eq, ifB_eq] at *
  first | exact D.w_rg1 | exact (D.w_rg1).trans (by simp only [ite_and]) | (rw [D.w_rg1]; simp only [ite_and]; done) | (apply D.w_rg1 <;> assumption)
@[simp ↓] theorem w_rg2 {i j : Int} : wp (rg2 [.int i, .int j] M) Q E = ((in62 i && in62 j) ∧ (Q (nR i 1 (j - i).toNat, (j - i).toNat + 1) M)) := by
  simp only [wp_eq, wpS_eq, ifB_eq] at *
  first | exact D.w_rg2 | exact (D.w_rg2).trans (by simp only [ite_and]) | (rw [D.w_rg2]; simp only [ite_and]; done) | (apply D.w_rg2 <;> assumption)
@[simp ↓] theorem w_iA : wp (iA a env M) Q E = wp (a env M) (fun x M1 => rdIt M1 x fun p => Q p M1) E := by
  simp only [wp_eq, wpS_eq] at *
  first | exact D.w_iA | (apply D.w_iA <;> assumption)
end
/-! ### comprehensions -/
section
variable {Q : MV → Hm → Prop} {E : MX → Hm → Prop} {M : Hm} {env : Env} {e : Fe} {c : Ft} {g : Ftg} {it : Fi} {vs : List Nat}
@[simp ↓] theorem w_lc : wp (eLc it g c e vs env M) Q E = wp (it env M) (fun p M1 => wp (lcGo p.1 g c e (wipeE env vs) p.2 0 [] M1) (fun l M2 => Q (.ref M2.length) (M2 ++ [.lst l])) E) E := by
  simp only [wp_eq, wpS_eq] at *
  first | exact D.w_lc | (apply D.w_lc <;> assumption)
theorem w_lc0 {Ql : List MV → Hm → Prop} {ni : Ni} (Inv : Nat → List MV → Hm → Prop) (N : Nat)
    (hn : ∀ k acc M, Inv k acc M → k ≤ N → ∃ o, ni M k = some o ∧ (o = none ↔ k = N))
    (step : ∀ k d acc M, k < N → ni M k = some (some d) → Inv k acc M → wp (g d env M) (fun e1 M1 => wp (c e1 M1) (fun t M2 => ifB (t) (wp (e e1 M2) (fun y M3 => acc.length < SL ∧ Inv (k + 1) (acc ++ [y]) M3) (fun _ _ => False)) (Inv (k + 1) acc M2)) (fun _ _ => False)) (fun _ _ => False))
    (hend : ∀ acc M, Inv N acc M → Ql acc M) :
    ∀ (n k : Nat) acc M, k + n = N + 1 → k ≤ N → Inv k acc M → wp (lcGo ni g c e env n k acc M) Ql E := by
  simp only [wp_eq, wpS_eq, ifB_eq] at *
  first | exact D.w_lc0 | exact (D.w_lc0).trans (by simp only [ite_and]) | (rw [D.w_lc0]; simp only [ite_and]; done) | (apply D.w_lc0 <;> assumption)
theorem w_lcT {Ql : List MV → Hm → Prop} {l : List MV} (Inv : Nat → List MV → Hm → Prop) (h0 : Inv 0 [] M)
    (step : ∀ k d acc M, l[k]? = some d → Inv k acc M → wp (g d env M) (fun e1 M1 => wp (c e1 M1) (fun t M2 => ifB (t) (wp (e e1 M2) (fun y M3 => acc.length < SL ∧ Inv (k + 1) (acc ++ [y]) M3) (fun _ _ => False)) (Inv (k + 1) acc M2)) (fun _ _ => False)) (fun _ _ => False))
    (hend : ∀ acc M, Inv l.length acc M → Ql acc M) : wp (lcGo (nT l) g c e env (l.length + 1) 0 [] M) Ql E := by
  simp only [wp_eq, wpS_eq, ifB_eq] at *
  first | exact D.w_lcT | exact (D.w_lcT).trans (by simp only [ite_and]) | (rw [D.w_lcT]; simp only [ite_and]; done) | (apply D.w_lcT <;> assumption)
theorem w_lcR {Ql : List MV → Hm → Prop} {lo cc : Int} {n : Nat} (Inv : Nat → List MV → Hm → Prop) (h0 : Inv 0 [] M)
    (step : ∀ k acc M, k < n → Inv k acc M → wp (g (.int (lo + k * cc)) env M) (fun e1 M1 => wp (c e1 M1) (fun t M2 => ifB (t) (wp (e e1 M2) (fun y M3 => acc.length < SL ∧ Inv (k + 1) (acc ++ [y]) M3) (fun _ _ => False)) (Inv (k + 1) acc M2)) (fun _ _ => False)) (fun _ _ => False))
    (hend : ∀ acc M, Inv n acc M → Ql acc M) : wp (lcGo (nR lo cc n) g c e env (n + 1) 0 [] M) Ql E := by
  simp only [wp_eq, wpS_eq, ifB_eq] at *
  first | exact D.w_lcR | exact (D.w_lcR).trans (by simp only [ite_and]) | (rw [D.w_lcR]; simp only [ite_and]; done) | (apply D.w_lcR <;> assumption)
end
/-! ### defs -/
theorem w_run {tab : Nat → Option Df} {n f : Nat} {ds : List MV} {M : Hm} {Q : MV → Hm → Prop} {E : MX → Hm → Prop} {d : Df} (h : tab f = some d) (hl : ds.length = d.np)
    (hb : wpS (d.bd (run tab n) (ds.map some ++ List.replicate (d.ns - d.np) none) M) (fun o _ M1 => match o with
      | .nx => Q .non M1
      | .ret v => Q v M1
      | _ => False) (fun x _ M1 => E x M1)) : wp (run tab (n + 1) f ds M) Q E := by
  simp only [wp_eq, wpS_eq] at *
  first | exact D.w_run | (apply D.w_run <;> assumption)
/-! ### the heap grows -/
theorem wS_cut {Q : O → Env → Hm → Prop} {E : MX → Env → Hm → Prop} {M : Hm} {env : Env} {a b : Fs} (P : Env → Hm → Prop) (h1 : wpS (a env M) (fun o e1 M1 => match o with | .nx => P e1 M1 | o => Q o e1 M1) E)
    (h2 : ∀ e1 M1, P e1 M1 → wpS (b e1 M1) Q E) : wpS (sSeq a b env M) Q E := by
  simp only [wp_eq, wpS_eq] at *
  first | exact D.wS_cut | (apply D.wS_cut <;> assumption)
/-! ### limits -/
end Mi
set_option maxRecDepth 100000
/-! Digits and texts. -/
namespace Mi
open PySem PySem.NumText TL L2 PyProof.Rows
theorem snocRec {α : Type} {m : List α → Prop} (h0 : m []) (h1 : ∀ l x, m l → m (l ++ [x])) : ∀ l, m l := fun l => by
  have key : ∀ r : List α, m r.reverse := by
    intro r
    induction r with
    | nil => exact h0
    | cons x r ih => rw [List.reverse_cons]; exact h1 _ _ ih
  have := key l.reverse
  rwa [List.reverse_reverse] at this
theorem dv_snoc (cs : Tx) (c : Nat) : digitsVal (cs ++ [c]) = digitsVal cs * 10 + (c - 48) := digitsVal_snoc cs c
theorem dv_app (a : Tx) : ∀ b : Tx, digitsVal (a ++ b) = digitsVal a * 10 ^ b.length + digitsVal b := by
  intro b
  induction b using snocRec with
  | h0 => simp [digitsVal]
  | h1 b c ih =>
    rw [← List.append_assoc, dv_snoc, dv_snoc, ih, List.length_append, List.length_singleton, Nat.pow_succ, Nat.add_mul]
    simp only [Nat.mul_assoc, Nat.add_assoc]
theorem numL_head : ∀ n : Nat, 1 ≤ n → ∃ c r, numL n = c :: r ∧ 49 ≤ c := by
  intro n
  induction n using Nat.strongRecOn with
  | ind n ih =>
    intro h
    rcases Nat.lt_or_ge n 10 with z | z
    · exact ⟨48 + n, [], numL_lt z, by omega⟩
    · obtain ⟨c, r, e, hc⟩ := ih (n / 10) (by omega) (by omega)
      exact ⟨c, r ++ [48 + n % 10], by rw [numL_step z, e]; rfl, hc⟩
/-- digits without needless zeros in front are a number's -/
theorem numL_unique : ∀ cs : Tx, AllDigits cs → (∃ c r, cs = c :: r ∧ (49 ≤ c ∨ r = [])) → numL (digitsVal cs) = cs := by
  intro cs
  induction cs using snocRec with
  | h0 => intro _ ⟨c, r, e, _⟩; cases e
  | h1 b c ih =>
    intro hd ⟨c0, r0, e, h0⟩
    have hc : 48 ≤ c ∧ c ≤ 57 := hd c (by simp)
    rw [dv_snoc]
    cases b with
    | nil =>
      simp only [List.nil_append] at e
      cases e
      have : digitsVal [] = 0 := rfl
      rw [List.nil_append, this, numL_lt (by omega)]
      congr 1
      omega
    | cons b0 b =>
      have e1 : b0 = c0 := by simp at e; exact e.1
      have hb : AllDigits (b0 :: b) := fun d hd' => hd d (List.mem_append_left _ hd')
      have h49 : 49 ≤ b0 := by
        rcases h0 with h0 | h0
        · rw [e1]; exact h0
        · subst h0
          simp at e
      have hv : 0 < digitsVal (b0 :: b) := digitsVal_pos h49
      have ih' := ih hb ⟨b0, b, rfl, .inl h49⟩
      rw [numL_step (by omega)]
      have e2 : (digitsVal (b0 :: b) * 10 + (c - 48)) / 10 = digitsVal (b0 :: b) := by omega
      have e3 : 48 + (digitsVal (b0 :: b) * 10 + (c - 48)) % 10 = c := by omega
      rw [e2, e3, ih']
/-- a number's digits, zeros in front up to k signs -/
def padN (k n : Nat) : Tx := List.replicate (k - (numL n).length) 48 ++ numL n
theorem dv_zeros : ∀ k : Nat, digitsVal (List.replicate k 48) = 0 := by
  intro k
  induction k with
  | zero => rfl
  | succ k ih =>
    rw [List.replicate_succ]
    exact ih
theorem dv_pad (k n : Nat) : digitsVal (padN k n) = n := by
  unfold padN
  rw [dv_app, dv_zeros, numL_val]
  omega
theorem digits_pad (k n : Nat) : AllDigits (padN k n) := fun c hc => by
  rcases List.mem_append.mp hc with h | h
  · have := (List.mem_replicate.mp h).2
    omega
  · exact numL_digits n c h
theorem len_pad {k n : Nat} (hk : 0 < k) (h : n < 10 ^ k) : (padN k n).length = k := by
  unfold padN
  have := numL_len hk h
  rw [List.length_append, List.length_replicate]
  omega
/-- a number's digits by chunks -/
theorem numL_chunk {k q r : Nat} (hk : 0 < k) (hr : r < 10 ^ k) (hq : 1 ≤ q) : numL (q * 10 ^ k + r) = numL q ++ padN k r := by
  have e : digitsVal (numL q ++ padN k r) = q * 10 ^ k + r := by
    rw [dv_app, numL_val, dv_pad, len_pad hk hr]
  rw [← e]
  refine numL_unique _ (fun c hc => ?_) ?_
  · rcases List.mem_append.mp hc with h | h
    · exact numL_digits q c h
    · exact digits_pad k r c h
  · obtain ⟨c, t, e, h⟩ := numL_head q hq
    exact ⟨c, t ++ padN k r, by rw [e]; rfl, .inl h⟩
theorem allDig_iff {s : Tx} : allDig s = true ↔ AllDigits s := by
  unfold allDig AllDigits
  simp [List.all_eq_true]
theorem numL_pos_len (n : Nat) : 0 < (numL n).length := List.length_pos_iff.mpr (numL_ne n)
theorem dv_lt : ∀ s : Tx, AllDigits s → digitsVal s < 10 ^ s.length := by
  intro s
  induction s using snocRec with
  | h0 => intro _; decide
  | h1 b c ih =>
    intro h
    have h1 := ih fun d hd => h d (List.mem_append_left _ hd)
    have hc : 48 ≤ c ∧ c ≤ 57 := h c (by simp)
    rw [dv_snoc, List.length_append, List.length_singleton, Nat.pow_succ]
    omega
theorem numL_len_ge {n k : Nat} (h : 10 ^ k ≤ n) : k < (numL n).length := by
  rcases Nat.lt_or_ge k (numL n).length with z | z
  · exact z
  · have h1 := dv_lt (numL n) (numL_digits n)
    rw [numL_val] at h1
    have := Nat.pow_le_pow_right (by decide : 0 < 10) z
    omega
/-- cut by places -/
theorem cut_from {α : Type} (l : List α) (i : Nat) : cut l (some (i : Int)) none = l.drop i := by
  unfold cut
  rw [HT.sIx_nat, HT.sIx_none]
  rcases Nat.le_total i l.length with h | h
  · rw [Nat.min_eq_left h, List.take_of_length_le (by rw [List.length_drop]; exact Nat.le_refl _)]
  · rw [Nat.min_eq_right h, List.drop_eq_nil_of_le (Nat.le_refl _), List.drop_eq_nil_of_le h, List.take_nil]
theorem cut_to {α : Type} (l : List α) (i : Nat) : cut l none (some (i : Int)) = l.take i := by
  unfold cut
  rw [HT.sIx_nat, HT.sIx_none, List.drop_zero, Nat.sub_zero]
  rcases Nat.le_total i l.length with h | h
  · rw [Nat.min_eq_left h]
  · rw [Nat.min_eq_right h, List.take_of_length_le (Nat.le_refl _), List.take_of_length_le h]
theorem cut_mid {α : Type} (l : List α) (i j : Nat) : cut l (some (i : Int)) (some (j : Int)) = (l.drop i).take (j - i) := by
  unfold cut
  rw [HT.sIx_nat, HT.sIx_nat]
  rcases Nat.le_total i l.length with h | h
  · rw [Nat.min_eq_left h]
    rcases Nat.le_total j l.length with h2 | h2
    · rw [Nat.min_eq_left h2]
    · rw [Nat.min_eq_right h2, List.take_of_length_le (by rw [List.length_drop]; exact Nat.le_refl _), List.take_of_length_le (by rw [List.length_drop]; omega)]
  · rw [Nat.min_eq_right h, List.drop_eq_nil_of_le (Nat.le_refl _), List.drop_eq_nil_of_le h, List.take_nil, List.take_nil]
/-- where c comes first from i on -/
theorem getD_T (s : Tx) (k : Nat) : (T s).cps.getD k 0 = s.getD k 0 := by
  show s.toArray.getD k 0 = s.getD k 0
  simp [Array.getD_eq_getD_getElem?, List.getD_eq_getElem?_getD]
theorem fromIndex_nat (n i : Nat) : fromIndex n (i : Int) = i := by
  unfold fromIndex
  rw [if_neg (by omega)]
  omega
theorem find3_first {s u v : Tx} {c : Nat} {i : Nat} (hs : s.drop i = u ++ c :: v) (hu : c ∉ u) : Txt.find3 (T s) (T [c]) (i : Int) = ((i + u.length : Nat) : Int) := by
  have hg : ∀ k : Nat, s.getD (i + k) 0 = (u ++ c :: v).getD k 0 := fun k => by
    rw [← hs]
    simp [List.getD_eq_getElem?_getD, List.getElem?_drop]
  have hl : s.length = i + (u.length + (v.length + 1)) := by
    have := congrArg List.length hs
    rw [List.length_drop, List.length_append, List.length_cons] at this
    omega
  have hlT := T_len s
  have at0 : s.getD (i + u.length) 0 = c := by
    rw [hg]
    simp [List.getD_eq_getElem?_getD]
  have ahead : ∀ k, k < u.length → s.getD (i + k) 0 ≠ c := fun k hk e => by
    rw [hg, List.getD_eq_getElem?_getD, List.getElem?_append_left hk, List.getElem?_eq_getElem hk] at e
    exact hu (by rw [← e]; exact List.getElem_mem hk)
  rcases StrLaws.find3_spec (T s) c (i : Int) with ⟨_, h⟩ | ⟨k, h1, h2, h3, h4, h5⟩
  · rw [fromIndex_nat] at h
    exact absurd (by rw [getD_T]; exact at0) (h (i + u.length) (by omega) (by omega))
  · rw [fromIndex_nat] at h2 h5
    have e : k = i + u.length := by
      rcases Nat.lt_trichotomy k (i + u.length) with z | z | z
      · have := ahead (k - i) (by omega)
        rw [getD_T] at h4
        rw [show i + (k - i) = k by omega] at this
        exact absurd h4 this
      · exact z
      · exact absurd (by rw [getD_T]; exact at0) (h5 (i + u.length) (by omega) z)
    rw [← e]
    exact h1
theorem find3_none {s : Tx} {c : Nat} {i : Nat} (hu : c ∉ s.drop i) : Txt.find3 (T s) (T [c]) (i : Int) = -1 := by
  have hlT := T_len s
  rcases StrLaws.find3_spec (T s) c (i : Int) with ⟨h, _⟩ | ⟨k, h1, h2, h3, h4, h5⟩
  · exact h
  · rw [fromIndex_nat] at h2
    rw [getD_T] at h4
    refine absurd ?_ hu
    have hk : k < s.length := by omega
    rw [List.getD_eq_getElem?_getD, List.getElem?_eq_getElem hk] at h4
    have e : (s.drop i)[k - i]? = some c := by
      rw [List.getElem?_drop, show i + (k - i) = k by omega, List.getElem?_eq_getElem hk]
      exact congrArg some h4
    exact List.mem_of_getElem? e
theorem numT_nat (n : Nat) : numT (n : Int) = numL n := by
  unfold numT
  rw [if_neg (by omega), Int.natAbs_natCast]
theorem numT_neg {i : Int} (h : i < 0) : numT i = 45 :: numL i.natAbs := by
  unfold numT
  rw [if_pos h]
theorem numT_pos {i : Int} (h : ¬ i < 0) : numT i = numL i.natAbs := by
  unfold numT
  rw [if_neg h]
theorem log2_few {n k : Nat} (h : n < 2 ^ k) (hk : 0 < k) : n.log2 < k := by
  by_cases h0 : n = 0
  · subst h0
    exact hk
  · exact (Nat.log2_lt h0).mpr h
theorem log2_64 {n : Nat} (h : n < 18446744073709551616) : n.log2 < 1920 := Nat.lt_of_lt_of_le (log2_few (k := 64) h (by decide)) (by decide)
theorem num_1 : numL 1 = [49] := numL_lt (by decide)
end Mi
set_option maxRecDepth 100000
/-! The defs of law_k00_integers_and_data in the small language (printed by gen.py). -/
namespace K00
open Mi
abbrev f_write_integer : Nat := 0
abbrev f_read_integer : Nat := 1
abbrev f_write_data : Nat := 2
abbrev f_plain_text : Nat := 3
abbrev f_read_plain : Nat := 4
abbrev f_read_data : Nat := 5
abbrev f__law_start : Nat := 6
abbrev f__law_draw : Nat := 7
abbrev f__law_one_of : Nat := 8
abbrev f__law_is_int : Nat := 9
abbrev f__law_same : Nat := 10
abbrev f__law_figures_of : Nat := 11
abbrev f__law_long_number : Nat := 12
abbrev f__law_some_datum : Nat := 13
abbrev f__law_datum_text : Nat := 14
abbrev f__law_nested : Nat := 15
abbrev f__law_refuses_text : Nat := 16
abbrev f_law : Nat := 17
abbrev c_BASE : MV := .int 10000000000000000000000000000000000000000000000000000000000000000
abbrev c_DEPTH : MV := .int 40
abbrev c_DIGITS : MV := .str [48, 49, 50, 51, 52, 53, 54, 55, 56, 57]
abbrev c_SIGNS : MV := .str [45, 48, 49, 50, 51, 52, 53, 54, 55, 56, 57]
abbrev x_AllgoonError : Nat := 0
abbrev x_BadText : Nat := 1
def sub_BadText : Nat → Option Bool
  | 0 => some false
  | 1 => some true
  | _ => none
def is_AllgoonError : Nat → Option Bool
  | 0 => some true
  | 1 => some true
  | _ => none
/-- write_integer(n); slots n, chunks, low -/
def b_write_integer (G : Ga) : Fs :=
sSeq (sIf (cB (eOp fLt (eVar 0) (eC (.int 0)))) (
sRet (eOp fAdd (eC (.str [45])) (eCall G f_write_integer (aCons (eUn fNeg (eVar 0)) aNil)))) (
sNx)) (
sSeq (sSet 1 (eLst (aNil))) (
sSeq (sWhl (cB (eOp fGe (eVar 0) (eC c_BASE))) (
sSeq (sAsg (gT 2 (gsCons (gN 0) (gsCons (gN 2) (gsNil)))) (eFn fDivmod (aCons (eVar 0) (aCons (eC c_BASE) aNil)))) (
sEx (eMet .list fAppend (eVar 1) (aCons (eMet .str fZfill (eFn fStr (aCons (eVar 2) aNil)) (aCons (eC (.int 64)) aNil)) aNil))))) (
sSeq (sEx (eMet .list fAppend (eVar 1) (aCons (eFn fStr (aCons (eVar 0) aNil)) aNil))) (
sRet (eMet .str fJoin (eC (.str [])) (aCons (eUn fRev (eVar 1)) aNil))))))
def d_write_integer : Df := ⟨1, 3, b_write_integer⟩
/-- read_integer(text); slots text, digits, char, head, n, start -/
def b_read_integer (G : Ga) : Fs :=
sSeq (sSet 1 (eVar 0)) (
sSeq (sIf (cB (eOp fEq (eSl fSl (eVar 0) (oNone) (oSome (eC (.int 1)))) (eC (.str [45])))) (
sSet 1 (eSl fSl (eVar 0) (oSome (eC (.int 1))) (oNone))) (
sNx)) (
sSeq (sIf (cOr (cB (eOp fEq (eVar 1) (eC (.str [])))) (cAnd (cB (eOp fEq (eOp fIx (eVar 1) (eC (.int 0))) (eC (.str [48])))) (cB (eOp fNe (eVar 0) (eC (.str [48])))))) (
sRaiseC x_BadText) (
sNx)) (
sSeq (sFor (iA (eVar 1)) (gN 2) (
sIf (cB (eOp fNotIn (eVar 2) (eC c_DIGITS))) (
sRaiseC x_BadText) (
sNx))) (
sSeq (sSet 3 (eOp fMod (eFn fLen (aCons (eVar 1) aNil)) (eC (.int 64)))) (
sSeq (sSet 4 (eC (.int 0))) (
sSeq (sIf (cB (eOp fGt (eVar 3) (eC (.int 0)))) (
sSet 4 (eFn fIntOf (aCons (eSl fSl (eVar 1) (oNone) (oSome (eVar 3))) aNil))) (
sNx)) (
sSeq (sFor (iRg rg3 (aCons (eVar 3) (aCons (eFn fLen (aCons (eVar 1) aNil)) (aCons (eC (.int 64)) aNil)))) (gN 5) (
sSet 4 (eOp fAdd (eOp fMul (eVar 4) (eC c_BASE)) (eFn fIntOf (aCons (eSl fSl (eVar 1) (oSome (eVar 5)) (oSome (eOp fAdd (eVar 5) (eC (.int 64))))) aNil))))) (
sSeq (sIf (cB (eOp fEq (eOp fIx (eVar 0) (eC (.int 0))) (eC (.str [45])))) (
sRet (eUn fNeg (eVar 4))) (
sNx)) (
sRet (eVar 4))))))))))
def d_read_integer : Df := ⟨1, 6, b_read_integer⟩
/-- write_data(datum); slots datum, item -/
def b_write_data (G : Ga) : Fs :=
sSeq (sIf (cV (eFn (fIsi "tuple") (aCons (eVar 0) aNil))) (
sRet (eOp fAdd (eOp fAdd (eC (.str [40])) (eMet .str fJoin (eC (.str [44, 32])) (aCons (eLc (iA (eVar 0)) (gN 1) (cYes) (eCall G f_write_data (aCons (eVar 1) aNil)) [1]) aNil))) (eC (.str [41])))) (
sNx)) (
sSeq (sIf (cV (eFn (fIsi "str") (aCons (eVar 0) aNil))) (
sRet (eOp fAdd (eOp fAdd (eC (.str [39])) (eVar 0)) (eC (.str [39])))) (
sNx)) (
sRet (eCall G f_write_integer (aCons (eVar 0) aNil))))
def d_write_data : Df := ⟨1, 2, b_write_data⟩
/-- plain_text(text); slots text, char -/
def b_plain_text (G : Ga) : Fs :=
sSeq (sFor (iA (eVar 0)) (gN 1) (
sIf (cOr (cB (eOp fLt (eVar 1) (eC (.str [32])))) (cOr (cB (eOp fGt (eVar 1) (eC (.str [126])))) (cOr (cB (eOp fEq (eVar 1) (eC (.str [39])))) (cB (eOp fEq (eFn fOrd (aCons (eVar 1) aNil)) (eC (.int 37))))))) (
sRet (eC (.bl false))) (
sNx))) (
sRet (eC (.bl true)))
def d_plain_text : Df := ⟨1, 2, b_plain_text⟩
/-- read_plain(text, start); slots text, start, end -/
def b_read_plain (G : Ga) : Fs :=
sSeq (sIf (cB (eOp fEq (eOp fIx (eVar 0) (eVar 1)) (eC (.str [39])))) (
sSeq (sSet 2 (eMet .str fFind3 (eVar 0) (aCons (eC (.str [39])) (aCons (eOp fAdd (eVar 1) (eC (.int 1))) aNil)))) (
sSeq (sIf (cOr (cB (eOp fLt (eVar 2) (eC (.int 0)))) (cNot (cV (eCall G f_plain_text (aCons (eSl fSl (eVar 0) (oSome (eOp fAdd (eVar 1) (eC (.int 1)))) (oSome (eVar 2))) aNil))))) (
sRaiseC x_BadText) (
sNx)) (
sRet (eTup (aCons (eSl fSl (eVar 0) (oSome (eOp fAdd (eVar 1) (eC (.int 1)))) (oSome (eVar 2))) (aCons (eOp fAdd (eVar 2) (eC (.int 1))) aNil)))))) (
sNx)) (
sSeq (sSet 2 (eVar 1)) (
sSeq (sWhl (cAnd (cB (eOp fLt (eVar 2) (eFn fLen (aCons (eVar 0) aNil)))) (cB (eOp fIn (eOp fIx (eVar 0) (eVar 2)) (eC c_SIGNS)))) (
sAug fIAdd 2 (eC (.int 1)))) (
sRet (eTup (aCons (eCall G f_read_integer (aCons (eSl fSl (eVar 0) (oSome (eVar 1)) (oSome (eVar 2))) aNil)) (aCons (eVar 2) aNil))))))
def d_read_plain : Df := ⟨2, 3, b_read_plain⟩
/-- read_data(text); slots text, stack, index, fresh, done, item -/
def b_read_data (G : Ga) : Fs :=
sSeq (sSet 1 (eLst (aCons (eLst (aNil)) aNil))) (
sSeq (sSet 2 (eC (.int 0))) (
sSeq (sSet 3 (eC (.bl true))) (
sSeq (sWhl (cB (eOp fLt (eVar 2) (eFn fLen (aCons (eVar 0) aNil)))) (
sIf (cAnd (cV (eVar 3)) (cAnd (cB (eOp fEq (eOp fIx (eVar 0) (eVar 2)) (eC (.str [40])))) (cB (eOp fLe (eFn fLen (aCons (eVar 1) aNil)) (eC c_DEPTH))))) (
sSeq (sEx (eMet .list fAppend (eVar 1) (aCons (eLst (aNil)) aNil))) (
sAug fIAdd 2 (eC (.int 1)))) (
sIf (cAnd (cB (eOp fEq (eOp fIx (eVar 0) (eVar 2)) (eC (.str [41])))) (cAnd (cB (eOp fGt (eFn fLen (aCons (eVar 1) aNil)) (eC (.int 1)))) (cOr (cNot (cV (eVar 3))) (cB (eOp fEq (eOp fIx (eVar 0) (eOp fSub (eVar 2) (eC (.int 1)))) (eC (.str [40]))))))) (
sSeq (sSet 4 (eFn fTuple (aCons (eMet .list fPop (eVar 1) aNil) aNil))) (
sSeq (sEx (eMet .list fAppend (eOp fIx (eVar 1) (eUn fNeg (eC (.int 1)))) (aCons (eVar 4) aNil))) (
sSeq (sAug fIAdd 2 (eC (.int 1))) (
sSet 3 (eC (.bl false)))))) (
sIf (cAnd (cNot (cV (eVar 3))) (cAnd (cB (eOp fGt (eFn fLen (aCons (eVar 1) aNil)) (eC (.int 1)))) (cB (eOp fEq (eSl fSl (eVar 0) (oSome (eVar 2)) (oSome (eOp fAdd (eVar 2) (eC (.int 2))))) (eC (.str [44, 32])))))) (
sSeq (sAug fIAdd 2 (eC (.int 2))) (
sSet 3 (eC (.bl true)))) (
sIf (cAnd (cV (eVar 3)) (cB (eOp fNe (eOp fIx (eVar 0) (eVar 2)) (eC (.str [40]))))) (
sSeq (sAsg (gT 2 (gsCons (gN 5) (gsCons (gN 2) (gsNil)))) (eCall G f_read_plain (aCons (eVar 0) (aCons (eVar 2) aNil)))) (
sSeq (sEx (eMet .list fAppend (eOp fIx (eVar 1) (eUn fNeg (eC (.int 1)))) (aCons (eVar 5) aNil))) (
sSet 3 (eC (.bl false))))) (
sRaiseC x_BadText)))))) (
sSeq (sIf (cOr (cB (eOp fNe (eFn fLen (aCons (eVar 1) aNil)) (eC (.int 1)))) (cB (eOp fNe (eFn fLen (aCons (eOp fIx (eVar 1) (eC (.int 0))) aNil)) (eC (.int 1))))) (
sRaiseC x_BadText) (
sNx)) (
sRet (eOp fIx (eOp fIx (eVar 1) (eC (.int 0))) (eC (.int 0))))))))
def d_read_data : Df := ⟨1, 6, b_read_data⟩
/-- _law_start(script); slots script -/
def b__law_start (G : Ga) : Fs :=
sRet (eLst (aCons (eFn fList (aCons (eVar 0) aNil)) (aCons (eC (.int 0)) (aCons (eC (.int 0)) (aCons (eC (.int 0)) aNil)))))
def d__law_start : Df := ⟨1, 1, b__law_start⟩
/-- _law_draw(state, most); slots state, most, found, cell, mixed -/
def b__law_draw (G : Ga) : Fs :=
sSeq (sAsg (gIx fSetL (eVar 0) (eC (.int 3))) (eOp fAdd (eOp fIx (eVar 0) (eC (.int 3))) (eC (.int 1)))) (
sSeq (sIf (cB (eOp fGt (eOp fIx (eVar 0) (eC (.int 2))) (eC (.int 0)))) (
sSeq (sSet 2 (eOp fMod (eFn fIntOf (aCons (eOp fIx (eVar 0) (eC (.int 2))) aNil)) (eVar 1))) (
sSeq (sAsg (gIx fSetL (eVar 0) (eC (.int 2))) (eOp fDiv (eOp fIx (eVar 0) (eC (.int 2))) (eVar 1))) (
sRet (eVar 2)))) (
sNx)) (
sSeq (sSet 3 (eC (.int 0))) (
sSeq (sIf (cB (eOp fGt (eFn fLen (aCons (eOp fIx (eVar 0) (eC (.int 0))) aNil)) (eC (.int 0)))) (
sSet 3 (eFn fAbs (aCons (eOp fIx (eOp fIx (eVar 0) (eC (.int 0))) (eOp fMod (eFn fIntOf (aCons (eOp fIx (eVar 0) (eC (.int 1))) aNil)) (eFn fLen (aCons (eOp fIx (eVar 0) (eC (.int 0))) aNil)))) aNil))) (
sNx)) (
sSeq (sAsg (gIx fSetL (eVar 0) (eC (.int 1))) (eOp fAdd (eOp fIx (eVar 0) (eC (.int 1))) (eC (.int 1)))) (
sSeq (sIf (cB (eOp fGe (eVar 3) (eOp fPow (eC (.int 10)) (eC (.int 18))))) (
sSeq (sAsg (gIx fSetL (eVar 0) (eC (.int 2))) (eOp fDiv (eVar 3) (eVar 1))) (
sRet (eOp fMod (eFn fIntOf (aCons (eVar 3) aNil)) (eVar 1)))) (
sNx)) (
sSeq (sSet 4 (eOp fMod (eFn fIntOf (aCons (eOp fAdd (eOp fMul (eOp fAdd (eVar 3) (eC (.int 1))) (eC (.int 48271))) (eOp fMul (eOp fIx (eVar 0) (eC (.int 3))) (eC (.int 69621)))) aNil)) (eC (.int 2147483647)))) (
sSeq (sSet 4 (eOp fMod (eFn fIntOf (aCons (eOp fAdd (eOp fAdd (eOp fMul (eVar 4) (eC (.int 16807))) (eOp fDiv (eVar 3) (eC (.int 97)))) (eOp fIx (eVar 0) (eC (.int 3)))) aNil)) (eC (.int 2147483629)))) (
sRet (eOp fMod (eOp fDiv (eVar 4) (eC (.int 11))) (eVar 1))))))))))
def d__law_draw : Df := ⟨2, 5, b__law_draw⟩
/-- _law_one_of(state, items); slots state, items -/
def b__law_one_of (G : Ga) : Fs :=
sRet (eOp fIx (eVar 1) (eCall G f__law_draw (aCons (eVar 0) (aCons (eFn fLen (aCons (eVar 1) aNil)) aNil))))
def d__law_one_of : Df := ⟨2, 2, b__law_one_of⟩
/-- _law_is_int(x); slots x -/
def b__law_is_int (G : Ga) : Fs :=
sRet (eAnd (eFn (fIsi "int") (aCons (eVar 0) aNil)) (eT (cNot (cB (eFn (fIsi "bool") (aCons (eVar 0) aNil))))))
def d__law_is_int : Df := ⟨1, 1, b__law_is_int⟩
/-- _law_same(x, y); slots x, y, k -/
def b__law_same (G : Ga) : Fs :=
sSeq (sIf (cV (eFn (fIsi "tuple") (aCons (eVar 1) aNil))) (
sSeq (sIf (cOr (cNot (cV (eFn (fIsi "tuple") (aCons (eVar 0) aNil)))) (cB (eOp fNe (eFn fLen (aCons (eVar 0) aNil)) (eFn fLen (aCons (eVar 1) aNil))))) (
sRet (eC (.bl false))) (
sNx)) (
sRet (eFn fAll (aCons (eLc (iRg rg1 (aCons (eFn fLen (aCons (eVar 1) aNil)) aNil)) (gN 2) (cYes) (eCall G f__law_same (aCons (eOp fIx (eVar 0) (eVar 2)) (aCons (eOp fIx (eVar 1) (eVar 2)) aNil))) [2]) aNil)))) (
sNx)) (
sSeq (sIf (cV (eFn (fIsi "str") (aCons (eVar 1) aNil))) (
sRet (eAnd (eFn (fIsi "str") (aCons (eVar 0) aNil)) (eOp fEq (eVar 0) (eVar 1)))) (
sNx)) (
sRet (eAnd (eCall G f__law_is_int (aCons (eVar 0) aNil)) (eOp fEq (eVar 0) (eVar 1)))))
def d__law_same : Df := ⟨2, 3, b__law_same⟩
/-- _law_figures_of(number); slots number, left, found, turn, low -/
def b__law_figures_of (G : Ga) : Fs :=
sSeq (sSet 1 (eFn fAbs (aCons (eVar 0) aNil))) (
sSeq (sSet 2 (eC (.str []))) (
sSeq (sFor (iRg rg1 (aCons (eC (.int 9999)) aNil)) (gN 3) (
sSeq (sIf (cB (eOp fLt (eVar 1) (eOp fPow (eC (.int 10)) (eC (.int 18))))) (
sBrk) (
sNx)) (
sSeq (sSet 4 (eOp fSub (eVar 1) (eOp fMul (eOp fDiv (eVar 1) (eOp fPow (eC (.int 10)) (eC (.int 18)))) (eOp fPow (eC (.int 10)) (eC (.int 18)))))) (
sSeq (sSet 2 (eOp fAdd (eSl fSl (eFn fStr (aCons (eOp fAdd (eOp fPow (eC (.int 10)) (eC (.int 18))) (eVar 4)) aNil)) (oSome (eC (.int 1))) (oNone)) (eVar 2))) (
sSet 1 (eOp fDiv (eVar 1) (eOp fPow (eC (.int 10)) (eC (.int 18))))))))) (
sSeq (sSet 2 (eOp fAdd (eFn fStr (aCons (eVar 1) aNil)) (eVar 2))) (
sSeq (sIf (cB (eOp fLt (eVar 0) (eC (.int 0)))) (
sRet (eOp fAdd (eC (.str [45])) (eVar 2))) (
sNx)) (
sRet (eVar 2))))))
def d__law_figures_of : Df := ⟨1, 5, b__law_figures_of⟩
/-- _law_long_number(state, most); slots state, most, number, turn -/
def b__law_long_number (G : Ga) : Fs :=
sSeq (sSet 2 (eCall G f__law_draw (aCons (eVar 0) (aCons (eOp fPow (eC (.int 10)) (eC (.int 18))) aNil)))) (
sSeq (sFor (iRg rg1 (aCons (eCall G f__law_draw (aCons (eVar 0) (aCons (eVar 1) aNil))) aNil)) (gN 3) (
sSet 2 (eOp fAdd (eOp fMul (eVar 2) (eOp fPow (eC (.int 10)) (eC (.int 18)))) (eCall G f__law_draw (aCons (eVar 0) (aCons (eOp fPow (eC (.int 10)) (eC (.int 18))) aNil)))))) (
sRet (eOp fMul (eVar 2) (eOp fIx (eLst (aCons (eC (.int 1)) (aCons (eUn fNeg (eC (.int 1))) aNil))) (eCall G f__law_draw (aCons (eVar 0) (aCons (eC (.int 2)) aNil)))))))
def d__law_long_number : Df := ⟨2, 4, b__law_long_number⟩
/-- _law_some_datum(state, depth); slots state, depth, pick, k -/
def b__law_some_datum (G : Ga) : Fs :=
sSeq (sSet 2 (eCall G f__law_draw (aCons (eVar 0) (aCons (eC (.int 7)) aNil)))) (
sSeq (sIf (cOr (cB (eOp fLt (eVar 2) (eC (.int 2)))) (cAnd (cB (eOp fEq (eVar 1) (eC (.int 0)))) (cB (eOp fGt (eVar 2) (eC (.int 3)))))) (
sRet (eOp fIx (eLst (aCons (eOp fSub (eCall G f__law_draw (aCons (eVar 0) (aCons (eC (.int 21)) aNil))) (eC (.int 10))) (aCons (eCall G f__law_long_number (aCons (eVar 0) (aCons (eC (.int 6)) aNil))) aNil))) (eCall G f__law_draw (aCons (eVar 0) (aCons (eC (.int 2)) aNil))))) (
sNx)) (
sSeq (sIf (cB (eOp fLt (eVar 2) (eC (.int 4)))) (
sRet (eOp fIx (eLst (aCons (eC (.str [])) (aCons (eC (.str [97, 32, 98])) (aCons (eC (.str [40, 49, 44, 32, 50, 41])) (aCons (eC (.str [48])) (aCons (eC (.str [120, 35, 121, 44, 32, 122])) (aCons (eC (.str [45])) aNil))))))) (eCall G f__law_draw (aCons (eVar 0) (aCons (eC (.int 6)) aNil))))) (
sNx)) (
sRet (eFn fTuple (aCons (eLc (iRg rg1 (aCons (eCall G f__law_draw (aCons (eVar 0) (aCons (eC (.int 4)) aNil))) aNil)) (gN 3) (cYes) (eCall G f__law_some_datum (aCons (eVar 0) (aCons (eOp fSub (eVar 1) (eC (.int 1))) aNil))) [3]) aNil)))))
def d__law_some_datum : Df := ⟨2, 4, b__law_some_datum⟩
/-- _law_datum_text(datum); slots datum, one -/
def b__law_datum_text (G : Ga) : Fs :=
sSeq (sIf (cV (eFn (fIsi "tuple") (aCons (eVar 0) aNil))) (
sRet (eOp fAdd (eOp fAdd (eC (.str [40])) (eMet .str fJoin (eC (.str [44, 32])) (aCons (eLc (iA (eVar 0)) (gN 1) (cYes) (eCall G f__law_datum_text (aCons (eVar 1) aNil)) [1]) aNil))) (eC (.str [41])))) (
sNx)) (
sSeq (sIf (cV (eFn (fIsi "str") (aCons (eVar 0) aNil))) (
sRet (eOp fAdd (eOp fAdd (eC (.str [39])) (eVar 0)) (eC (.str [39])))) (
sNx)) (
sRet (eCall G f__law_figures_of (aCons (eVar 0) aNil))))
def d__law_datum_text : Df := ⟨1, 2, b__law_datum_text⟩
/-- _law_nested(datum, many); slots datum, many, turn -/
def b__law_nested (G : Ga) : Fs :=
sSeq (sFor (iRg rg1 (aCons (eVar 1) aNil)) (gN 2) (
sSet 0 (eTup (aCons (eVar 0) aNil)))) (
sRet (eVar 0))
def d__law_nested : Df := ⟨2, 3, b__law_nested⟩
/-- _law_refuses_text(kind, text); slots kind, text, e -/
def b__law_refuses_text (G : Ga) : Fs :=
sSeq (sTryAs (
sIf (cB (eOp fEq (eVar 0) (eC (.str [105, 110, 116, 101, 103, 101, 114])))) (
sEx (eCall G f_read_integer (aCons (eVar 1) aNil))) (
sEx (eCall G f_read_data (aCons (eVar 1) aNil)))) sub_BadText 2 (suIs is_AllgoonError)) (
sRet (eC (.bl false)))
def d__law_refuses_text : Df := ⟨2, 3, b__law_refuses_text⟩
/-- law(script); slots script, state, turn, number, text, bad, datum, deep -/
def b_law (G : Ga) : Fs :=
sSeq (sSet 1 (eCall G f__law_start (aCons (eVar 0) aNil))) (
sSeq (sFor (iRg rg1 (aCons (eC (.int 4)) aNil)) (gN 2) (
sSeq (sSet 3 (eOp fIx (eLst (aCons (eOp fSub (eCall G f__law_draw (aCons (eVar 1) (aCons (eC (.int 41)) aNil))) (eC (.int 20))) (aCons (eCall G f__law_long_number (aCons (eVar 1) (aCons (eC (.int 30)) aNil))) aNil))) (eCall G f__law_draw (aCons (eVar 1) (aCons (eC (.int 2)) aNil))))) (
sSeq (sSet 4 (eCall G f__law_figures_of (aCons (eVar 3) aNil))) (
sSeq (sIf (cOr (cNot (cV (eCall G f__law_same (aCons (eCall G f_write_integer (aCons (eVar 3) aNil)) (aCons (eVar 4) aNil))))) (cNot (cV (eCall G f__law_same (aCons (eCall G f_read_integer (aCons (eVar 4) aNil)) (aCons (eVar 3) aNil)))))) (
sRet (eC (.bl false))) (
sNx)) (
sSeq (sSet 5 (eLst (aCons (eC (.str [])) (aCons (eC (.str [45])) (aCons (eC (.str [45, 48])) (aCons (eC (.str [43, 49])) (aCons (eC (.str [48, 48])) (aCons (eOp fAdd (eC (.str [48])) (eVar 4)) (aCons (eOp fAdd (eVar 4) (eC (.str [32]))) (aCons (eOp fAdd (eC (.str [32])) (eVar 4)) (aCons (eOp fAdd (eVar 4) (eC (.str [45]))) (aCons (eC (.str [45, 45, 49])) (aCons (eC (.str [49, 32, 50])) (aCons (eC (.str [49, 95, 48])) (aCons (eC (.str [120])) aNil))))))))))))))) (
sSeq (sIf (cNot (cV (eCall G f__law_refuses_text (aCons (eC (.str [105, 110, 116, 101, 103, 101, 114])) (aCons (eCall G f__law_one_of (aCons (eVar 1) (aCons (eVar 5) aNil))) aNil))))) (
sRet (eC (.bl false))) (
sNx)) (
sSeq (sSet 6 (eCall G f__law_some_datum (aCons (eVar 1) (aCons (eC (.int 4)) aNil)))) (
sSeq (sSet 4 (eCall G f__law_datum_text (aCons (eVar 6) aNil))) (
sSeq (sIf (cOr (cNot (cV (eCall G f__law_same (aCons (eCall G f_write_data (aCons (eVar 6) aNil)) (aCons (eVar 4) aNil))))) (cNot (cV (eCall G f__law_same (aCons (eCall G f_read_data (aCons (eVar 4) aNil)) (aCons (eVar 6) aNil)))))) (
sRet (eC (.bl false))) (
sNx)) (
sSeq (sSet 5 (eLst (aCons (eC (.str [])) (aCons (eC (.str [40])) (aCons (eC (.str [41])) (aCons (eC (.str [40, 49, 44, 50, 41])) (aCons (eC (.str [40, 49, 44, 32, 41])) (aCons (eC (.str [40, 49, 32, 50, 41])) (aCons (eC (.str [40, 49, 41, 50])) (aCons (eC (.str [39, 97])) (aCons (eC (.str [97, 39])) (aCons (eC (.str [40, 41, 40, 41])) (aCons (eC (.str [40, 44, 41])) (aCons (eC (.str [40, 32, 49, 41])) (aCons (eC (.str [39, 97, 39, 39, 98, 39])) (aCons (eC (.str [40, 49, 44, 32, 32, 50, 41])) aNil)))))))))))))))) (
sSeq (sSet 5 (eOp fAdd (eVar 5) (eLst (aCons (eOp fAdd (eVar 4) (eC (.str [32]))) (aCons (eOp fAdd (eC (.str [40])) (eVar 4)) (aCons (eOp fAdd (eVar 4) (eC (.str [41]))) (aCons (eOp fAdd (eVar 4) (eC (.str [44, 32, 49]))) (aCons (eOp fAdd (eOp fAdd (eC (.str [40])) (eVar 4)) (eC (.str [44, 41]))) (aCons (eC (.str [49, 46, 48])) (aCons (eC (.str [40, 45, 48, 41])) (aCons (eC (.str [78, 111, 110, 101])) aNil))))))))))) (
sIf (cNot (cV (eCall G f__law_refuses_text (aCons (eC (.str [100, 97, 116, 97])) (aCons (eCall G f__law_one_of (aCons (eVar 1) (aCons (eVar 5) aNil))) aNil))))) (
sRet (eC (.bl false))) (
sNx))))))))))))) (
sSeq (sSet 7 (eCall G f__law_nested (aCons (eC (.int 7)) (aCons (eC (.int 40)) aNil)))) (
sSeq (sIf (cNot (cV (eCall G f__law_same (aCons (eCall G f_read_data (aCons (eCall G f_write_data (aCons (eVar 7) aNil)) aNil)) (aCons (eVar 7) aNil))))) (
sRet (eC (.bl false))) (
sNx)) (
sRet (eCall G f__law_refuses_text (aCons (eC (.str [100, 97, 116, 97])) (aCons (eCall G f__law_datum_text (aCons (eCall G f__law_nested (aCons (eC (.int 7)) (aCons (eC (.int 41)) aNil))) aNil)) aNil)))))))
def d_law : Df := ⟨1, 8, b_law⟩
def tab : Nat → Option Df
  | 0 => some d_write_integer
  | 1 => some d_read_integer
  | 2 => some d_write_data
  | 3 => some d_plain_text
  | 4 => some d_read_plain
  | 5 => some d_read_data
  | 6 => some d__law_start
  | 7 => some d__law_draw
  | 8 => some d__law_one_of
  | 9 => some d__law_is_int
  | 10 => some d__law_same
  | 11 => some d__law_figures_of
  | 12 => some d__law_long_number
  | 13 => some d__law_some_datum
  | 14 => some d__law_datum_text
  | 15 => some d__law_nested
  | 16 => some d__law_refuses_text
  | 17 => some d_law
  | _ => none
end K00
set_option maxRecDepth 100000
namespace K00
open Mi
/-! ### draws -/
/-- the state of the draws at a, the script's numbers at b -/
structure Sta (M : Hm) (a b : Nat) (ns : List Int) : Prop where
  ne : a ≠ b
  st : ∃ p q r : Int, M[a]? = some (.lst [.ref b, .int p, .int q, .int r])
  sc : M[b]? = some (.lst (ns.map MV.int))
theorem Sta.set {M : Hm} {a b : Nat} {ns : List Int} (s : Sta M a b ns) (p q r : Int) : Sta (M.set a (.lst [.ref b, .int p, .int q, .int r])) a b ns := by
  obtain ⟨ne, ⟨p', q', r', h⟩, sc⟩ := s
  refine ⟨ne, ⟨p, q, r, ?_⟩, ?_⟩
  · rw [List.getElem?_set_self (List.getElem?_eq_some_iff.mp h).1]
  · rw [List.getElem?_set_ne ne]
    exact sc
theorem Sta.pre {M M' : Hm} {a b : Nat} {ns : List Int} (s : Sta M a b ns) (h : Pre M M') : Sta M' a b ns := by
  obtain ⟨ne, ⟨p', q', r', h1⟩, sc⟩ := s
  exact ⟨ne, ⟨p', q', r', h _ _ h1⟩, h _ _ sc⟩
theorem start_ok {n : Nat} {ns : List Int} {M : Hm} {Q : MV → Hm → Prop} {E : MX → Hm → Prop}
    (h : ∀ a b M', Sta M' a b ns → Q (.ref a) M') : wp (run tab (n + 1) f__law_start [.rol (ns.map MV.int)] M) Q E := by
  refine w_run rfl rfl ?_
  simp [d__law_start, b__law_start]
  refine h (M.length + 1) M.length _ ⟨by omega, ⟨0, 0, 0, ?_⟩, ?_⟩
  · rw [List.getElem?_append_right (by omega)]
    simp
  · rw [List.getElem?_append_right (by omega)]
    simp
theorem draw_ok {n a b : Nat} {ns : List Int} {most : Int} {M : Hm} {Q : MV → Hm → Prop} {E : MX → Hm → Prop} (s : Sta M a b ns) (h0 : 0 < most) (hl : most.natAbs.log2 < 9000)
    (h : ∀ k M', 0 ≤ k → k < most → Sta M' a b ns → But a M M' → Q (.int k) M') : wp (run tab (n + 1) f__law_draw [.ref a, .int most] M) Q E := by
  have s0 := s
  obtain ⟨hne, ⟨p, q, r, hs⟩, hb⟩ := s
  have fin : ∀ (k p q r : Int), Q (.int (k % most)) (M.set a (.lst [.ref b, .int p, .int q, .int r])) := fun k p q r =>
    h _ _ (Int.emod_nonneg _ (by omega)) (Int.emod_lt_of_pos _ h0) (s0.set p q r) But.set
  have c3 : ∀ i, cDiv i most = true := fun i => by simp [cDiv, h0, hl]
  have c4 := cDiv_of (j := 97) (by decide)
  have c5 := cDiv_of (j := 11) (by decide)
  have c6 : cPow 10 18 = true := by decide
  refine w_run rfl rfl ?_
  simp [d__law_draw, b__law_draw, rdL_of hs, rdL_set hs, rdL_ne hne, rdL_of hb, c3, h0]
  refine ifB_p (fun _ => fin _ _ _ _) fun _ => ?_
  refine ifB_p (fun hn => ?_) fun _ => ?_
  · obtain ⟨c, hc⟩ := ix_mod (p := p) hn
    refine ⟨hn, ?_⟩
    simp [rdI_of hc, rdL_of hs, rdL_set hs, c3, c4, c5, c6, cMul_r, fin, h0, ifB_eq]
  · simp [rdL_of hs, rdL_set hs, c3, c4, c5, c6, cMul_r, fin, h0]
theorem one_of_ok {n a b k : Nat} {ns : List Int} {l : List MV} {M : Hm} {Q : MV → Hm → Prop} {E : MX → Hm → Prop} (s : Sta M a b ns) (hk : M[k]? = some (.lst l)) (hne : k ≠ a) (h0 : 0 < l.length) (hl : l.length < 2 ^ 64)
    (h : ∀ d M', d ∈ l → Sta M' a b ns → But a M M' → Q d M') : wp (run tab (n + 2) f__law_one_of [.ref a, .ref k] M) Q E := by
  refine w_run rfl rfl ?_
  simp [d__law_one_of, b__law_one_of, rdL_of hk]
  refine draw_ok s (by omega) ?_ fun i M' h1 h2 s' u => ?_
  · rw [Int.natAbs_natCast]
    have : l.length.log2 < 64 := by
      rw [Nat.log2_lt (by omega)]
      exact hl
    omega
  · obtain ⟨j, rfl⟩ : ∃ j : Nat, i = j := ⟨_, (Int.toNat_of_nonneg h1).symm⟩
    have hj : j < l.length := by omega
    simp [rdL_of (u k _ hne hk), rdI_nat, List.getElem?_eq_getElem hj]
    exact h _ _ (List.getElem_mem hj) s' u

end K00
set_option maxRecDepth 100000
namespace K00
open Mi TL PySem.NumText
/-! ### data -/
/-- a datum nested at most n deep -/
def Dt : Nat → MV → Prop
  | _, .int i => (numL i.natAbs).length ≤ 600
  | _, .str s => s.length ≤ 600
  | n + 1, .tup l => l.length ≤ 600 ∧ ∀ d ∈ l, Dt n d
  | _, _ => False
def dtx : Nat → MV → Tx
  | _, .int i => numT i
  | _, .str s => 39 :: (s ++ [39])
  | n + 1, .tup l => 40 :: (joinT [44, 32] (l.map (dtx n)) ++ [41])
  | _, _ => []
theorem is_int_ok {n : Nat} {i : Int} {M : Hm} {Q : MV → Hm → Prop} {E : MX → Hm → Prop} (h : Q (.bl true) M) : wp (run tab (n + 1) f__law_is_int [.int i] M) Q E := by
  refine w_run rfl rfl ?_
  simp [d__law_is_int, b__law_is_int, h]
theorem bools_rep (k : Nat) : boolsOf (List.replicate k (.bl true)) = some (List.replicate k true) := by
  unfold boolsOf
  induction k with
  | zero => rfl
  | succ k ih => simp [List.replicate_succ, ih]
theorem same_ok : ∀ (m n : Nat) (d : MV) (M : Hm) (Q : MV → Hm → Prop) (E : MX → Hm → Prop), Dt m d → (∀ M', Pre M M' → Q (.bl true) M') → wp (run tab (n + m + 2) f__law_same [d, d] M) Q E := by
  intro m
  induction m with
  | zero =>
    intro n d M Q E hd h
    refine w_run rfl rfl ?_
    cases d with
    | int i =>
      simp [d__law_same, b__law_same]
      refine is_int_ok ?_
      simp [h _ Pre.rfl]
    | str s => simp [d__law_same, b__law_same, h _ Pre.rfl]
    | _ => exact hd.elim
  | succ m ih =>
    intro n d M Q E hd h
    refine w_run rfl rfl ?_
    cases d with
    | int i =>
      simp [d__law_same, b__law_same]
      refine is_int_ok ?_
      simp [h _ Pre.rfl]
    | str s => simp [d__law_same, b__law_same, h _ Pre.rfl]
    | tup l =>
      obtain ⟨hl, hd⟩ := hd
      have h62 : in62 (l.length : Int) = true := in62_nat (by omega)
      simp [d__law_same, b__law_same, h62]
      refine w_lcR (fun k acc M' => acc = List.replicate k (.bl true) ∧ Pre M M') ⟨rfl, Pre.rfl⟩ (fun k acc M1 hk hi => ?_) fun acc M1 hi => ?_
      · obtain ⟨rfl, hp⟩ := hi
        simp [wipeE, rdI_nat, List.getElem?_eq_getElem hk]
        refine ih n _ _ _ _ (hd _ (List.getElem_mem hk)) fun M2 h2 => ?_
        refine ⟨by omega, ?_, hp.trans h2⟩
        rw [List.replicate_succ']
      · obtain ⟨rfl, hp⟩ := hi
        simp [bools_rep]
        exact h _ (hp.trans Pre.app)
    | _ => exact hd.elim
end K00
set_option maxRecDepth 100000
namespace K00
open Mi TL PySem.NumText
/-! ### numbers as texts -/
theorem chunk18 {left : Nat} (h : 1000000000000000000 ≤ left) : numL left = numL (left / 1000000000000000000) ++ padN 18 (left % 1000000000000000000) := by
  have e : left = left / 1000000000000000000 * 10 ^ 18 + left % 1000000000000000000 := by
    have := Nat.div_add_mod left 1000000000000000000
    omega
  have := numL_chunk (k := 18) (q := left / 1000000000000000000) (r := left % 1000000000000000000) (by decide) (Nat.mod_lt _ (by decide)) (by omega)
  rw [← this, ← e]
theorem one18 (r : Nat) (h : r < 1000000000000000000) : numL (1000000000000000000 + r) = 49 :: padN 18 r := by
  have := numL_chunk (k := 18) (q := 1) (r := r) (by decide) h (by decide)
  rw [num_1] at this
  rw [show 1000000000000000000 + r = 1 * 10 ^ 18 + r by omega, this]
  rfl
theorem figures_ok {n : Nat} {i : Int} {M : Hm} {Q : MV → Hm → Prop} {E : MX → Hm → Prop} (hl : (numL i.natAbs).length ≤ 600) (h : Q (.str (numT i)) M) : wp (run tab (n + 1) f__law_figures_of [.int i] M) Q E := by
  refine w_run rfl rfl ?_
  have c1 := cDiv_of (j := 1000000000000000000) (by decide)
  have c6 : cPow 10 18 = true := by decide
  have c7 : in62 9999 = true := by decide
  simp [d__law_figures_of, b__law_figures_of, c7]
  have z0 := trivial
  refine wpS_mono (Q := fun o env M' => o = .nx ∧ M' = M ∧ ∃ (left : Nat) (found : Tx) (t u : Option MV), env = [some (.int i), some (.int left), some (.str found), t, u] ∧ numL i.natAbs = numL left ++ found ∧ left < 1000000000000000000) (E := fun _ _ _ => False) ?_ ?_ fun _ _ _ h => h.elim
  · refine wS_forR (fun k env M' => M' = M ∧ ∃ (left : Nat) (found : Tx) (t u : Option MV), env = [some (.int i), some (.int left), some (.str found), t, u] ∧ numL i.natAbs = numL left ++ found ∧ 18 * k ≤ found.length) ⟨rfl, i.natAbs, [], none, none, by simp⟩ ?_ ?_
    · rintro k env M' hk ⟨rfl, left, found, t, u, rfl, e, hf⟩
      simp [c6]
      refine ifB_p (fun hlt => ⟨left, found, by simp, e, by omega⟩) fun hlt => ?_
      · have hlt : 1000000000000000000 ≤ left := by omega
        have hm : ((left : Int) - (left : Int) / 1000000000000000000 * 1000000000000000000) = ((left % 1000000000000000000 : Nat) : Int) := by omega
        have hs : ((1000000000000000000 : Int) + ((left % 1000000000000000000 : Nat) : Int)) = ((1000000000000000000 + left % 1000000000000000000 : Nat) : Int) := by omega
        have hd : ((left : Int) / 1000000000000000000) = ((left / 1000000000000000000 : Nat) : Int) := by omega
        have hlog : ((((1000000000000000000 + left % 1000000000000000000 : Nat) : Int)).natAbs).log2 < 1920 := by
          rw [Int.natAbs_natCast]
          exact log2_64 (by omega)
        have hlen := len_pad (k := 18) (n := left % 1000000000000000000) (by decide) (Nat.mod_lt _ (by decide))
        have e2 := chunk18 (left := left) hlt
        have hfl : found.length ≤ 600 := by
          have := congrArg List.length e
          rw [List.length_append] at this
          omega
        have h1 : numT ((1000000000000000000 + left % 1000000000000000000 : Nat) : Int) = 49 :: padN 18 (left % 1000000000000000000) := by
          rw [numT_nat, one18 _ (Nat.mod_lt _ (by decide))]
        have h2 : cut (49 :: padN 18 (left % 1000000000000000000)) (some 1) none = padN 18 (left % 1000000000000000000) := by
          rw [show (1 : Int) = ((1 : Nat) : Int) from rfl, cut_from]
          rfl
        have c8 : cMul ((left : Int) / 1000000000000000000) 1000000000000000000 = true := cMul_r (by decide)
        simp [c1, c8, hm]
        have hs' : ((1000000000000000000 : Int) + (left : Int) % 1000000000000000000) = ((1000000000000000000 + left % 1000000000000000000 : Nat) : Int) := by omega
        rw [hs', h1, h2]
        refine ⟨hlog, by rw [List.length_cons, hlen]; omega, by omega, left / 1000000000000000000, _, ⟨by omega, rfl⟩, ?_, ?_⟩
        · rw [e, e2, List.append_assoc]
        · rw [List.length_append, hlen]
          omega
    · rintro env M' ⟨rfl, left, found, t, u, rfl, e, hf⟩
      have := congrArg List.length e
      rw [List.length_append] at this
      omega
  · rintro o env M' ⟨rfl, rfl, left, found, t, u, rfl, e, hlt⟩
    have hlog : (left : Int).natAbs.log2 < 1920 := by
      rw [Int.natAbs_natCast]
      exact log2_64 (by omega)
    have hle := congrArg List.length e
    rw [List.length_append] at hle
    simp [hlog, numT_nat]
    refine ⟨log2_64 (by omega), by omega, ifB_p (fun hi => ?_) fun hi => ?_⟩
    · refine ⟨by omega, ?_⟩
      rw [← e, ← numT_neg hi]
      exact h
    · rw [← e, ← numT_pos hi]
      exact h
/-! ### write_integer -/
theorem chunk64 {m : Nat} (h : 10 ^ 64 ≤ m) : numL m = numL (m / 10 ^ 64) ++ padN 64 (m % 10 ^ 64) := by
  have e : m = m / 10 ^ 64 * 10 ^ 64 + m % 10 ^ 64 := (Nat.div_add_mod' m (10 ^ 64)).symm
  have h1 : 1 ≤ m / 10 ^ 64 := (Nat.le_div_iff_mul_le (Nat.pow_pos (by decide))).mpr (by omega)
  have := numL_chunk (k := 64) (q := m / 10 ^ 64) (r := m % 10 ^ 64) (by decide) (Nat.mod_lt _ (Nat.pow_pos (by decide))) h1
  rw [← this, ← e]
theorem joinT_nil : ∀ ss : List Tx, joinT [] ss = ss.flatten
  | [] => rfl
  | [x] => by simp [joinT]
  | x :: y :: r => by
    rw [joinT, joinT_nil (y :: r)]
    rfl
theorem texts_str (ss : List Tx) : textsOf (ss.map MV.str) = some ss := by
  unfold textsOf
  induction ss with
  | nil => rfl
  | cons s ss ih => simp [ih]
def BASEn : Nat := 10 ^ 64
theorem BASE_is : c_BASE = .int ((BASEn : Nat) : Int) := by
  show MV.int _ = MV.int _
  congr 1
theorem BASE_log : ((BASEn : Nat) : Int).natAbs.log2 < 9000 := by
  rw [Int.natAbs_natCast]
  exact Nat.lt_of_lt_of_le (log2_few (k := 213) (by decide) (by decide)) (by decide)
theorem write_nat {n : Nat} {m : Nat} {M : Hm} {Q : MV → Hm → Prop} {E : MX → Hm → Prop} (hl : (numL m).length ≤ 600) (h : ∀ M', Pre M M' → Q (.str (numL m)) M') : wp (run tab (n + 1) f_write_integer [.int (m : Int)] M) Q E := by
  refine w_run rfl rfl ?_
  have hB : ∀ i, cDiv i ((BASEn : Nat) : Int) = true := by
    refine cDiv_of ?_
    unfold cDiv
    have h0 : (0 : Int) < ((BASEn : Nat) : Int) := by decide
    rw [decide_eq_true h0, decide_eq_true BASE_log]
    rfl
  simp [d_write_integer, b_write_integer]
  refine wS_whl (fun k env M' => ∃ (q : Nat) (cs : List Tx) (lo : Option MV), env = [some (.int q), some (.ref M.length), lo] ∧ M' = M ++ [.lst (cs.map MV.str)] ∧ numL m = numL q ++ cs.reverse.flatten ∧ k = (numL q).length ∧ 64 * cs.length ≤ cs.reverse.flatten.length)
    (fun k env M' hi => ?_) WL (numL m).length _ _ (by show _ < 1073741824; omega) ⟨m, [], none, by simp, by simp, by simp, rfl, by simp⟩
  obtain ⟨q, cs, lo, rfl, rfl, e, rfl, hc⟩ := hi
  have hcl : cs.reverse.flatten.length ≤ 600 := by
    have := congrArg List.length e
    rw [List.length_append] at this
    omega
  rw [BASE_is]
  simp
  refine ifB_p (fun hge => ?_) fun hlt => ?_
  · have hq : 10 ^ 64 ≤ q := by
      have : BASEn ≤ q := by omega
      exact this
    have hlen := len_pad (k := 64) (n := q % 10 ^ 64) (by decide) (Nat.mod_lt _ (Nat.pow_pos (by decide)))
    have e2 := chunk64 hq
    have hd : ((q : Int) / ((BASEn : Nat) : Int)) = ((q / BASEn : Nat) : Int) := (Int.natCast_ediv _ _).symm
    have hm : ((q : Int) % ((BASEn : Nat) : Int)) = ((q % BASEn : Nat) : Int) := (Int.natCast_emod _ _).symm
    have hlow : q % BASEn < 10 ^ 64 := Nat.mod_lt _ (Nat.pow_pos (by decide))
    have hlog : ((q % BASEn : Nat) : Int).natAbs.log2 < 1920 := by
      rw [Int.natAbs_natCast]
      refine Nat.lt_of_lt_of_le (log2_few (k := 213) (Nat.lt_of_lt_of_le hlow (by decide)) (by decide)) (by decide)
    have hpad : List.replicate (64 - (numL (q % BASEn)).length) 48 ++ numL (q % BASEn) = padN 64 (q % 10 ^ 64) := rfl
    have hpk : PySem.PadOk 64 = true := by decide
    have hns : noSign (numL (q % BASEn)) = true := by
      have h1 := numL_digits (q % BASEn)
      cases hq : numL (q % BASEn) with
      | nil => rfl
      | cons c r =>
        have h2 := h1 c (by rw [hq]; exact List.mem_cons_self)
        unfold noSign
        simp
        omega
    simp [hB, hd, hm, hlog, numT_nat, hpk, hns, hpad, -Int.natCast_ediv, -Int.natCast_emod]
    have hsum : (List.map List.length cs).sum ≤ 600 := by simpa using hcl
    refine ⟨by rw [Int.natAbs_natCast] at hlog; exact hlog, by simp at hc; omega, (numL (q / BASEn)).length, ?_, q / BASEn, rfl, cs ++ [padN 64 (q % 10 ^ 64)], by simp, ?_, rfl, ?_⟩
    · rw [e2, List.length_append, hlen]
      show _ < (numL (q / BASEn)).length + 64
      omega
    · rw [e, e2]
      simp
      rfl
    · simp at hc
      rw [List.map_append, List.sum_append, List.length_append]
      simp [-Nat.reducePow, hlen]
      omega
  · have hq : ¬ 10 ^ 64 ≤ q := fun z => hlt (by
      have : BASEn ≤ q := z
      omega)
    have hlog : ((q : Nat) : Int).natAbs.log2 < 1920 := by
      rw [Int.natAbs_natCast]
      refine Nat.lt_of_lt_of_le (log2_few (k := 213) (Nat.lt_of_lt_of_le (Nat.lt_of_not_le hq) (by decide)) (by decide)) (by decide)
    have hle := congrArg List.length e
    rw [List.length_append] at hle
    have hrev : (List.map MV.str cs ++ [MV.str (numL q)]).reverse = ((cs ++ [numL q]).reverse).map MV.str := by simp
    simp [hlog, numT_nat]
    have ht : textsOf (MV.str (numL q) :: (List.map MV.str cs).reverse) = some (numL q :: cs.reverse) := by
      have := texts_str (numL q :: cs.reverse)
      rw [List.map_cons, List.map_reverse] at this
      exact this
    have hj : joinT [] (numL q :: cs.reverse) = numL m := by rw [joinT_nil, List.flatten_cons, e]
    have hsum : (List.map List.length cs).sum ≤ 600 := by simpa using hcl
    rw [rdO_of ht, hj]
    refine ⟨by rw [Int.natAbs_natCast] at hlog; exact hlog, by simp at hc; omega, ?_, h _ Pre.app⟩
    have : (numL q).length ≤ 600 := by omega
    simp
    exact Nat.le_trans (Nat.add_le_add_left (show _ ≤ 600 from hsum) _) (by omega)
theorem write_integer_ok {n : Nat} {i : Int} {M : Hm} {Q : MV → Hm → Prop} {E : MX → Hm → Prop} (hl : (numL i.natAbs).length ≤ 600) (h : ∀ M', Pre M M' → Q (.str (numT i)) M') : wp (run tab (n + 2) f_write_integer [.int i] M) Q E := by
  by_cases hi : i < 0
  · refine w_run rfl rfl ?_
    simp [d_write_integer, b_write_integer, hi]
    have e : -i = ((i.natAbs : Nat) : Int) := by omega
    rw [e]
    refine write_nat hl fun M' h' => ?_
    rw [numT_neg hi] at h
    simp
    exact ⟨by omega, h _ h'⟩
  · have e : i = ((i.natAbs : Nat) : Int) := by omega
    rw [e]
    refine write_nat hl fun M' h' => ?_
    rw [numT_pos hi] at h
    exact h _ h'
end K00
set_option maxRecDepth 100000
namespace K00
open Mi TL PySem.NumText
/-! ### read_integer -/
def digs (s : Tx) : Tx := if s.take 1 = [45] then s.drop 1 else s
def okI (s : Tx) : Prop := digs s ≠ [] ∧ ¬ ((digs s)[0]? = some 48 ∧ s ≠ [48]) ∧ AllDigits (digs s)
def valI (s : Tx) : Int := if s[0]? = some 45 then -((digitsVal (digs s) : Nat) : Int) else ((digitsVal (digs s) : Nat) : Int)
theorem mem_digits {c : Nat} : c ∈ [48, 49, 50, 51, 52, 53, 54, 55, 56, 57] ↔ 48 ≤ c ∧ c ≤ 57 := by
  simp
  omega
theorem range64 {h q : Nat} (hh : h < 64) : PySem.Builtin.Range.rangeSize (h : Int) ((h + 64 * q : Nat) : Int) 64 = q := by
  unfold PySem.Builtin.Range.rangeSize
  rw [if_pos (by decide)]
  by_cases hq : q = 0
  · subst hq
    rw [if_neg (by omega)]
    rfl
  · rw [if_pos (by omega)]
    omega
theorem take_drop_app {α : Type} (l : List α) (i j : Nat) : l.take (i + j) = l.take i ++ (l.drop i).take j := List.take_add ..
theorem read_integer_ok {n : Nat} {s : Tx} {M : Hm} {Q : MV → Hm → Prop} {E : MX → Hm → Prop} (hl : s.length ≤ 200000) (h1 : okI s → Q (.int (valI s)) M) (h2 : ¬ okI s → E ⟨1, none⟩ M) :
    wp (run tab (n + 1) f_read_integer [.str s] M) Q E := by
  refine w_run rfl rfl ?_
  unfold d_read_integer b_read_integer
  dsimp only [List.map, List.replicate, List.append]
  -- digits = the text without its sign
  refine wS_cut (fun env M' => M' = M ∧ env = [some (.str s), some (.str s), none, none, none, none]) ?_ ?_
  · simp
  rintro env M' ⟨rfl, rfl⟩
  have hc1 : cut s none (some 1) = s.take 1 := cut_to s 1
  have hc2 : cut s (some 1) none = s.drop 1 := cut_from s 1
  refine wS_cut (fun env M1 => M1 = M' ∧ env = [some (.str s), some (.str (digs s)), none, none, none, none]) ?_ ?_
  · simp [hc1, hc2]
    refine ⟨by omega, ?_⟩
    by_cases hs : s.take 1 = [45]
    · rw [ifB_true (by simp [hs])]
      simp [digs, hs]
      omega
    · rw [ifB_false (by simp [hs])]
      simp [digs, hs]
  rintro env M1 ⟨rfl, rfl⟩
  have hdl : (digs s).length ≤ s.length := by
    unfold digs
    split
    · rw [List.length_drop]; omega
    · exact Nat.le_refl _
  refine wS_cut (fun env M2 => M2 = M1 ∧ env = [some (.str s), some (.str (digs s)), none, none, none, none] ∧ digs s ≠ [] ∧ ¬ ((digs s)[0]? = some 48 ∧ s ≠ [48])) ?_ ?_
  · simp
    refine ifB_p (fun he => h2 fun z => z.1 he) fun he => ?_
    have hpos : 0 < (digs s).length := List.length_pos_iff.mpr he
    refine ⟨by omega, ?_⟩
    rw [rdN_eq]
    obtain ⟨c0, r0, hd⟩ : ∃ c r, digs s = c :: r := by
      cases h : digs s with
      | nil => exact absurd h he
      | cons c r => exact ⟨c, r, rfl⟩
    rw [hd]
    simp
    refine ifB_p (fun hc => ?_) fun hc => by simp [hc]
    by_cases hz : s = [48]
    · rw [ifB_false (by simp [hz])]
      intro _
      exact hz
    · rw [ifB_true (by simp [hz])]
      refine h2 fun z => z.2.1 ⟨?_, hz⟩
      rw [hd, hc]
      rfl
  rintro env M2 ⟨rfl, rfl, hne, hlead⟩
  have hpos : 0 < (digs s).length := List.length_pos_iff.mpr hne
  -- each sign is a digit
  refine wS_cut (fun env M3 => M3 = M2 ∧ (∃ t, env = [some (.str s), some (.str (digs s)), t, none, none, none]) ∧ AllDigits (digs s)) ?_ ?_
  · simp
    have hmap : (digs s).length = ((digs s).map fun c => MV.str [c]).length := by simp
    rw [hmap]
    refine wS_forT (fun k env M3 => M3 = M2 ∧ (∃ t, env = [some (.str s), some (.str (digs s)), t, none, none, none]) ∧ ∀ j c, j < k → (digs s)[j]? = some c → 48 ≤ c ∧ c ≤ 57) ⟨rfl, ⟨none, rfl⟩, fun j c hj => absurd hj (Nat.not_lt_zero _)⟩ ?_ ?_
    · rintro k d env M3 hd ⟨rfl, ⟨t, rfl⟩, ha⟩
      rw [List.getElem?_map] at hd
      obtain ⟨c, hc, rfl⟩ := Option.map_eq_some_iff.mp hd
      simp [c_DIGITS]
      by_cases hm : 48 ≤ c ∧ c ≤ 57
      · rw [ifB_false (by simp; omega)]
        refine fun j c' hj hc' => ?_
        rcases Nat.lt_or_ge j k with z | z
        · exact ha j c' z hc'
        · have : j = k := by omega
          subst this
          rw [hc] at hc'
          cases hc'
          exact hm
      · rw [ifB_true (by simp; omega)]
        exact h2 fun z => hm (z.2.2 c (List.mem_of_getElem? hc))
    · rintro env M3 ⟨rfl, ⟨t, rfl⟩, ha⟩
      refine ⟨rfl, ⟨t, rfl⟩, fun c hc => ?_⟩
      obtain ⟨j, hj⟩ := List.mem_iff_getElem?.mp hc
      refine ha j c ?_ hj
      rw [← hmap]
      exact (List.getElem?_eq_some_iff.mp hj).1
  rintro env M3 ⟨rfl, ⟨t, rfl⟩, had⟩
  have hok : okI s := ⟨hne, hlead, had⟩
  have h1 := h1 hok
  obtain ⟨hd, q, hlen, hh⟩ : ∃ hd q, (digs s).length = hd + 64 * q ∧ hd < 64 := ⟨(digs s).length % 64, (digs s).length / 64, by omega, by omega⟩
  have hmod : (((digs s).length : Nat) : Int) % 64 = ((hd : Nat) : Int) := by omega
  refine wS_cut (fun env M4 => M4 = M3 ∧ env = [some (.str s), some (.str (digs s)), t, some (.int (hd : Nat)), none, none]) ?_ ?_
  · simp [hmod]
    omega
  rintro env M4 ⟨rfl, rfl⟩
  refine wS_cut (fun env M5 => M5 = M4 ∧ env = [some (.str s), some (.str (digs s)), t, some (.int (hd : Nat)), some (.int 0), none]) ?_ ?_
  · simp
  rintro env M5 ⟨rfl, rfl⟩
  have sub : ∀ (a b : Tx), a.Sublist b → AllDigits b → allDig a = true := fun a b h1 h2 => allDig_iff.mpr fun c hc => h2 c (h1.subset hc)
  refine wS_cut (fun env M6 => M6 = M5 ∧ env = [some (.str s), some (.str (digs s)), t, some (.int (hd : Nat)), some (.int (digitsVal ((digs s).take hd) : Nat)), none]) ?_ ?_
  · simp
    refine ifB_p (fun hp => ?_) fun hp => ?_
    · have ht : cut (digs s) none (some ((hd : Nat) : Int)) = (digs s).take hd := cut_to _ _
      have hl2 : ((digs s).take hd).length = hd := by rw [List.length_take]; omega
      have hn : ((digs s).take hd) ≠ [] := fun z => by rw [z] at hl2; simp at hl2; omega
      simp [ht, sub _ _ (List.take_sublist _ _) had, hn]
      omega
    · have : hd = 0 := by omega
      subst this
      simp
      rfl
  rintro env M6 ⟨rfl, rfl⟩
  have hsz : PySem.Builtin.Range.rangeSize ((hd : Nat) : Int) (((digs s).length : Nat) : Int) 64 = (q : Int) := by
    rw [hlen]
    exact range64 hh
  have hsm : PySem.Builtin.Range.small ((hd : Nat) : Int) (((digs s).length : Nat) : Int) 64 = true := by
    have fit : ∀ x : Int, -1000000000 ≤ x → x ≤ 1000000000 → PySem.Builtin.Range.rangeFitsLong x = true := fun x h1 h2 => by
      unfold PySem.Builtin.Range.rangeFitsLong
      simp only [Bool.and_eq_true, decide_eq_true_eq]
      constructor <;> omega
    unfold PySem.Builtin.Range.small
    rw [hsz, fit _ (by omega) (by omega), fit _ (by omega) (by omega), fit 64 (by decide) (by decide), fit _ (by omega) (by omega), if_pos (by decide), fit _ (by omega) (by omega)]
    simp
  refine wS_cut (fun env M7 => M7 = M6 ∧ ∃ u, env = [some (.str s), some (.str (digs s)), t, some (.int (hd : Nat)), some (.int (digitsVal (digs s) : Nat)), u]) ?_ ?_
  · simp [rg3, hsm, hsz]
    refine ⟨by omega, ?_⟩
    refine wS_forR (fun k env M7 => M7 = M6 ∧ k ≤ q ∧ ∃ u, env = [some (.str s), some (.str (digs s)), t, some (.int (hd : Nat)), some (.int (digitsVal ((digs s).take (hd + 64 * k)) : Nat)), u]) ⟨rfl, by omega, _, rfl⟩ ?_ ?_
    · rintro k env M7 hk ⟨rfl, _, u, rfl⟩
      have e1 : (((hd : Nat) : Int) + (k : Int) * 64) = ((hd + 64 * k : Nat) : Int) := by omega
      have e2 : (((hd + 64 * k : Nat) : Int) + 64) = ((hd + 64 * k + 64 : Nat) : Int) := by omega
      have ht : cut (digs s) (some ((hd + 64 * k : Nat) : Int)) (some ((hd + 64 * k + 64 : Nat) : Int)) = ((digs s).drop (hd + 64 * k)).take 64 := by
        rw [cut_mid, Nat.add_sub_cancel_left]
      have hl2 : (((digs s).drop (hd + 64 * k)).take 64).length = 64 := by
        rw [List.length_take, List.length_drop]
        omega
      have hn : ((digs s).drop (hd + 64 * k)).take 64 ≠ [] := fun z => by rw [z] at hl2; cases hl2
      have hbig : cMul ((digitsVal ((digs s).take (hd + 64 * k)) : Nat) : Int) ((BASEn : Nat) : Int) = true := by
        have hx := dv_lt ((digs s).take (hd + 64 * k)) fun c hc => had c ((List.take_sublist _ _).subset hc)
        have h4 : 10 ^ ((digs s).take (hd + 64 * k)).length ≤ 2 ^ (4 * ((digs s).take (hd + 64 * k)).length) := by
          rw [Nat.pow_mul]
          exact Nat.pow_le_pow_left (by decide) _
        have h5 : 2 ^ (4 * ((digs s).take (hd + 64 * k)).length) ≤ 2 ^ (4 * ((digs s).take (hd + 64 * k)).length + 1) := Nat.pow_le_pow_right (by decide) (by omega)
        have hlg := log2_few (k := 4 * ((digs s).take (hd + 64 * k)).length + 1) (Nat.lt_of_lt_of_le (Nat.lt_of_lt_of_le hx h4) h5) (by omega)
        have hbl : BASEn.log2 < 213 := log2_few (k := 213) (by decide) (by decide)
        have hll : ((digs s).take (hd + 64 * k)).length ≤ 200000 := by rw [List.length_take]; omega
        unfold cMul
        rw [Int.natAbs_natCast, Int.natAbs_natCast, decide_eq_true (by omega)]
        rfl
      have hv : digitsVal ((digs s).take (hd + 64 * (k + 1))) = digitsVal ((digs s).take (hd + 64 * k)) * BASEn + digitsVal (((digs s).drop (hd + 64 * k)).take 64) := by
        rw [show hd + 64 * (k + 1) = hd + 64 * k + 64 by omega, take_drop_app, dv_app, hl2]
        rfl
      rw [e1, BASE_is]
      simp [-Int.natCast_add, -Int.natCast_mul, e2, ht, hbig, hl2, hn, sub _ _ ((List.take_sublist _ _).trans (List.drop_sublist _ _)) had]
      exact ⟨by omega, hk, by rw [hv, Int.natCast_add, Int.natCast_mul]⟩
    · rintro env M7 ⟨rfl, _, u, rfl⟩
      refine ⟨rfl, u, ?_⟩
      rw [← hlen, List.take_length]
  rintro env M7 ⟨rfl, u, rfl⟩
  have hs0 : 0 < s.length := by omega
  obtain ⟨c0, r0, rfl⟩ : ∃ c r, s = c :: r := by
    cases s with
    | nil => simp at hs0
    | cons c r => exact ⟨c, r, rfl⟩
  simp
  simp at hl
  refine ⟨by omega, ?_⟩
  refine ifB_p (fun hc => ?_) fun hc => ?_
  · have e : valI (c0 :: r0) = -((digitsVal (digs (c0 :: r0)) : Nat) : Int) := if_pos (congrArg some hc)
    rw [e] at h1
    exact h1
  · have e : valI (c0 :: r0) = ((digitsVal (digs (c0 :: r0)) : Nat) : Int) := if_neg fun z => hc (Option.some.inj z)
    rw [e] at h1
    exact h1
end K00
set_option maxRecDepth 100000
namespace K00
open Mi TL PySem.NumText
/-! ### plain texts -/
def plainC (c : Nat) : Bool := decide (32 ≤ c) && decide (c ≤ 126) && decide (c ≠ 39) && decide (c ≠ 37)
def plain (s : Tx) : Bool := s.all plainC
theorem lt_one {a b : Nat} : ([a] < [b]) ↔ a < b := by simp [List.cons_lt_cons_iff]
theorem plain_text_ok {n : Nat} {s : Tx} {M : Hm} {Q : MV → Hm → Prop} {E : MX → Hm → Prop} (hl : s.length ≤ 200000) (h : Q (.bl (plain s)) M) : wp (run tab (n + 1) f_plain_text [.str s] M) Q E := by
  refine w_run rfl rfl ?_
  simp [d_plain_text, b_plain_text]
  have hmap : s.length = (s.map fun c => MV.str [c]).length := by simp
  rw [hmap]
  refine wS_forT (fun k env M' => M' = M ∧ (∃ t, env = [some (.str s), t]) ∧ ∀ j c, j < k → s[j]? = some c → plainC c = true) ⟨rfl, ⟨_, rfl⟩, fun j c hj => absurd hj (Nat.not_lt_zero _)⟩ ?_ ?_
  · rintro k d env M' hd ⟨rfl, ⟨t, rfl⟩, ha⟩
    rw [List.getElem?_map] at hd
    obtain ⟨c, hc, rfl⟩ := Option.map_eq_some_iff.mp hd
    simp [lt_one]
    have hno : ¬ plainC c = true → Q (.bl false) M' := fun hn => by
      have : plain s = false := by
        cases hp : plain s with
        | false => rfl
        | true => exact absurd (List.all_eq_true.mp hp c (List.mem_of_getElem? hc)) hn
      rw [this] at h
      exact h
    unfold plainC at hno
    simp at hno
    have key : ∀ j c', j < k + 1 → s[j]? = some c' → (plainC c = true → plainC c' = true) := fun j c' hj hc' hp => by
      rcases Nat.lt_or_ge j k with z | z
      · exact ha j c' z hc'
      · have : j = k := by omega
        subst this
        rw [hc] at hc'
        cases hc'
        exact hp
    refine ifB_p (fun h1 => hno fun a b c => by omega) fun h1 => ?_
    refine ifB_p (fun h2 => hno fun a b c => by omega) fun h2 => ?_
    refine ifB_p (fun h3 => hno fun a b c => by omega) fun h3 => ?_
    refine ifB_p (fun h4 => hno fun a b c => by omega) fun h4 => ?_
    refine fun j c' hj hc' => key j c' hj hc' ?_
    unfold plainC
    simp
    omega
  · rintro env M' ⟨rfl, ⟨t, rfl⟩, ha⟩
    have : plain s = true := List.all_eq_true.mpr fun c hc => by
      obtain ⟨j, hj⟩ := List.mem_iff_getElem?.mp hc
      refine ha j c ?_ hj
      rw [← hmap]
      exact (List.getElem?_eq_some_iff.mp hj).1
    rw [this] at h
    exact h
/-! ### what read_plain reads -/
def isS (c : Nat) : Bool := decide (c = 45) || (decide (48 ≤ c) && decide (c ≤ 57))
instance (s : Tx) : Decidable (okI s) := by
  unfold okI AllDigits
  infer_instance
def rpl : Tx → Option (MV × Nat)
  | [] => none
  | c :: r => if c = 39 then (if 39 ∈ r ∧ plain (r.takeWhile (· != 39)) = true then some (.str (r.takeWhile (· != 39)), (r.takeWhile (· != 39)).length + 2) else none)
    else if okI ((c :: r).takeWhile isS) then some (.int (valI ((c :: r).takeWhile isS)), ((c :: r).takeWhile isS).length) else none
theorem tw_split : ∀ r : Tx, 39 ∈ r → ∃ v, r = r.takeWhile (· != 39) ++ 39 :: v
  | [], h => by cases h
  | c :: r, h => by
    by_cases hc : c = 39
    · subst hc
      exact ⟨r, by simp⟩
    · obtain ⟨v, hv⟩ := tw_split r (by rcases List.mem_cons.mp h with z | z; exact absurd z.symm hc; exact z)
      refine ⟨v, ?_⟩
      rw [List.takeWhile_cons_of_pos (by simp [hc]), List.cons_append, ← hv]
theorem tw_not {p : Nat → Bool} {c : Nat} (hp : p c = false) : ∀ r : Tx, c ∉ r.takeWhile p
  | [] => by simp
  | a :: r => by
    rw [List.takeWhile_cons]
    split
    · rename_i h
      intro hm
      rcases List.mem_cons.mp hm with z | z
      · subst z
        rw [hp] at h
        cases h
      · exact tw_not hp r z
    · simp
theorem tw_len {p : Nat → Bool} (r : Tx) : (r.takeWhile p).length ≤ r.length := (List.takeWhile_sublist p).length_le
theorem tw_at {p : Nat → Bool} : ∀ (r : Tx) (j : Nat), j < (r.takeWhile p).length → ∃ c, r[j]? = some c ∧ p c = true
  | [], j, h => by simp at h
  | a :: r, j, h => by
    rw [List.takeWhile_cons] at h
    split at h
    · rename_i ha
      cases j with
      | zero => exact ⟨a, rfl, ha⟩
      | succ j =>
        obtain ⟨c, h1, h2⟩ := tw_at r j (by simpa using h)
        exact ⟨c, by simpa using h1, h2⟩
    · simp at h
theorem tw_end {p : Nat → Bool} : ∀ (r : Tx) (c : Nat), r[(r.takeWhile p).length]? = some c → p c = false
  | [], c, h => by simp at h
  | a :: r, c, h => by
    rw [List.takeWhile_cons] at h
    split at h
    · exact tw_end r c (by simpa using h)
    · rename_i ha
      simp at h
      subst h
      simpa using ha
theorem tw_take {p : Nat → Bool} (r : Tx) : r.take (r.takeWhile p).length = r.takeWhile p := by
  have h : r = r.takeWhile p ++ r.dropWhile p := (List.takeWhile_append_dropWhile).symm
  exact (congrArg (List.take _) h).trans (List.take_left' rfl)
theorem mem_signs {c : Nat} : (c ∈ [45, 48, 49, 50, 51, 52, 53, 54, 55, 56, 57]) ↔ isS c = true := by
  unfold isS
  simp
  omega
theorem read_plain_ok {n : Nat} {s : Tx} {i : Nat} {M : Hm} {Q : MV → Hm → Prop} {E : MX → Hm → Prop} (hl : s.length ≤ 200000) (hi : i < s.length)
    (h1 : ∀ d k, rpl (s.drop i) = some (d, k) → Q (.tup [d, .int ((i + k : Nat) : Int)]) M) (h2 : rpl (s.drop i) = none → E ⟨1, none⟩ M) : wp (run tab (n + 2) f_read_plain [.str s, .int (i : Int)] M) Q E := by
  refine w_run rfl rfl ?_
  obtain ⟨c, r, hd⟩ : ∃ c r, s.drop i = c :: r := ⟨_, _, List.drop_eq_getElem_cons hi⟩
  have hc : s[i]? = some c := by
    have := congrArg (·[0]?) hd
    simpa [List.getElem?_drop] using this
  have hr : s.drop (i + 1) = r := by
    have := congrArg (List.drop 1) hd
    rw [List.drop_drop] at this
    exact this
  rw [hd] at h1 h2
  have e1 : ((i : Int) + 1) = ((i + 1 : Nat) : Int) := by omega
  simp [d_read_plain, b_read_plain, rdI_nat, hc, -Int.natCast_add, e1]
  refine ⟨by omega, ?_⟩
  refine ifB_p (fun h39 => ?_) fun h39 => ?_
  · subst h39
    by_cases hm : 39 ∈ r
    · obtain ⟨v, hv⟩ := tw_split r hm
      have hnu : 39 ∉ r.takeWhile (· != 39) := tw_not (by decide) r
      have hf := find3_first (s := s) (i := i + 1) (by rw [hr]; exact hv) hnu
      have hcut : cut s (some ((i + 1 : Nat) : Int)) (some ((i + 1 + (r.takeWhile (· != 39)).length : Nat) : Int)) = r.takeWhile (· != 39) := by
        rw [cut_mid, hr, Nat.add_sub_cancel_left]
        exact (congrArg (List.take _) hv).trans (List.take_left' rfl)
      have hrl : r.length ≤ s.length := by rw [← hr, List.length_drop]; omega
      rw [hf, ifB_false (by simp; omega), hcut]
      refine ⟨by omega, plain_text_ok (by have := tw_len (p := (· != 39)) r; omega) ?_⟩
      simp only [rdT_bl]
      cases hp : plain (r.takeWhile (· != 39)) with
      | false =>
        rw [ifB_true (by rfl)]
        exact h2 (by simp [rpl, hp])
      | true =>
        rw [ifB_false (by rfl)]
        refine ⟨by omega, ?_⟩
        have := h1 (.str (r.takeWhile (· != 39))) ((r.takeWhile (· != 39)).length + 2) (by simp [rpl, hm, hp])
        have e3 : (((i + 1 + (r.takeWhile (· != 39)).length : Nat) : Int) + 1) = ((i + ((r.takeWhile (· != 39)).length + 2) : Nat) : Int) := by omega
        rw [e3]
        exact this
    · have hf := find3_none (s := s) (c := 39) (i := i + 1) (by rw [hr]; exact hm)
      rw [hf, ifB_true (by decide)]
      exact h2 (by simp [rpl, hm])
  · -- a number
    have hp : ∀ k, (s.drop i)[k]? = s[i + k]? := fun k => by rw [List.getElem?_drop]
    have htw := tw_len (p := isS) (s.drop i)
    have hdl : (s.drop i).length = s.length - i := List.length_drop
    have hd' := hd
    generalize hL : ((s.drop i).takeWhile isS).length = L at htw
    refine wpS_mono (Q := fun o env M' => o = .nx ∧ M' = M ∧ env = [some (.str s), some (.int (i : Int)), some (.int ((i + L : Nat) : Int))]) (E := fun _ _ _ => False) ?_ ?_ fun _ _ _ h => h.elim
    · refine wS_whl (fun k env M' => M' = M ∧ ∃ j : Nat, k + j = s.length ∧ j ≤ L ∧ env = [some (.str s), some (.int (i : Int)), some (.int ((i + j : Nat) : Int))])
        (fun k env M' hi => ?_) WL s.length _ _ (by show _ < 1073741824; omega) ⟨rfl, 0, by omega, by omega, by simp⟩
      obtain ⟨rfl, j, hk, hj, rfl⟩ := hi
      rcases Nat.lt_or_ge j L with hlt | hge
      · obtain ⟨c1, h3, h4⟩ := tw_at (p := isS) (s.drop i) j (by rw [hL]; exact hlt)
        rw [hp] at h3
        have h5 := mem_signs.mpr h4
        have e4 : ((i + j : Nat) : Int) + 1 = ((i + (j + 1) : Nat) : Int) := by omega
        have hin : i + j < s.length := by omega
        simp [rdI_nat, -Int.natCast_add, h3, c_SIGNS]
        rw [ifB_true (decide_eq_true (by omega))]
        refine ⟨by omega, ?_⟩
        rw [ifB_true (by simpa using h5)]
        exact ⟨by omega, k - 1, by omega, j + 1, by omega, by omega, e4⟩
      · have hj' : j = L := by omega
        subst hj'
        simp [rdI_nat, -Int.natCast_add, c_SIGNS]
        refine ⟨by omega, ifB_p (fun hin => ⟨by omega, ?_⟩) fun _ => trivial⟩
        have hin' : i + j < s.length := by omega
        have h6 := tw_end (p := isS) (s.drop i) (s[i + j]) (by rw [hL, hp, List.getElem?_eq_getElem hin'])
        rw [List.getElem?_eq_getElem hin', rdO_some]
        have h7 : ¬ (s[i + j] ∈ [45, 48, 49, 50, 51, 52, 53, 54, 55, 56, 57]) := fun z => by
          rw [mem_signs.mp z] at h6
          cases h6
        rw [ifB_false (by simpa using h7)]
        trivial
    · rintro o env M' ⟨rfl, rfl, rfl⟩
      have hcut : cut s (some (i : Int)) (some ((i + L : Nat) : Int)) = (s.drop i).takeWhile isS := by
        rw [cut_mid, Nat.add_sub_cancel_left, ← hL, tw_take]
      simp [-Int.natCast_add, hcut]
      refine ⟨by omega, read_integer_ok (by rw [hL]; omega) (fun ho => ?_) fun ho => ?_⟩
      · rw [hd] at ho hL ⊢
        rw [← hL]
        exact h1 _ _ (by simp [rpl, h39, ho])
      · rw [hd] at ho
        exact h2 (by simp [rpl, h39, ho])
end K00
set_option maxRecDepth 100000
namespace K00
open Mi TL PySem.NumText
/-! ### read_data as a function: what is open (the innermost first), the sign in front, whether a datum may begin, the rest -/
def pgo : Nat → List (List MV) → Nat → Bool → Tx → Option MV
  | 0, _, _, _, _ => none
  | n + 1, stk, pv, fr, [] => match stk with
    | [[d]] => some d
    | _ => none
  | n + 1, stk, pv, fr, c :: r =>
    if fr = true ∧ c = 40 ∧ stk.length ≤ 40 then pgo n ([] :: stk) 40 true r
    else if c = 41 ∧ 1 < stk.length ∧ (fr = false ∨ pv = 40) then match stk with
      | top :: nx :: more => pgo n ((nx ++ [.tup top]) :: more) 41 false r
      | _ => none
    else if fr = false ∧ 1 < stk.length ∧ (c :: r).take 2 = [44, 32] then pgo n stk 32 true (r.drop 1)
    else if fr = true ∧ c ≠ 40 then match rpl (c :: r) with
      | some (d, k) => (match stk with
        | top :: more => pgo n ((top ++ [d]) :: more) 0 false ((c :: r).drop k)
        | [] => none)
      | none => none
    else none
/-- the stack in the heap: at S the open lists, the outermost first; rs, ls: the innermost first -/
structure Stk (M M' : Hm) (S : Nat) (rs : List Nat) (ls : List (List MV)) : Prop where
  pre : Pre M M'
  at_ : M'[S]? = some (.lst (rs.reverse.map MV.ref))
  ge : M.length ≤ S
  len : rs.length = ls.length
  ob : ∀ (j r : Nat) (l : List MV), rs[j]? = some r → ls[j]? = some l → M'[r]? = some (.lst l) ∧ M.length ≤ r ∧ r ≠ S
  nd : rs.Nodup
theorem Pre.set {M M' : Hm} {a : Nat} {o : MO} (h : Pre M M') (ha : M.length ≤ a) : Pre M (M'.set a o) := fun i u hi => by
  have := (List.getElem?_eq_some_iff.mp hi).1
  rw [List.getElem?_set_ne (by omega)]
  exact h i u hi
theorem Stk.push {M M' : Hm} {S : Nat} {rs : List Nat} {ls : List (List MV)} (h : Stk M M' S rs ls) :
    Stk M ((M' ++ [MO.lst []]).set S (.lst ((M'.length :: rs).reverse.map MV.ref))) S (M'.length :: rs) ([] :: ls) := by
  have hS : S < M'.length := (List.getElem?_eq_some_iff.mp h.at_).1
  have hM : M.length ≤ M'.length := h.pre.len
  have old : ∀ (r : Nat) u, M'[r]? = some u → r ≠ S → ((M' ++ [MO.lst []]).set S (.lst ((M'.length :: rs).reverse.map MV.ref)))[r]? = some u := fun r u e hr => by
    rw [List.getElem?_set_ne (Ne.symm hr), List.getElem?_append_left (List.getElem?_eq_some_iff.mp e).1]
    exact e
  refine ⟨Pre.set (h.pre.trans Pre.app) h.ge, ?_, h.ge, by simp [h.len], fun j r l h1 h2 => ?_, ?_⟩
  · rw [List.getElem?_set_self (by simp; omega)]
  · cases j with
    | zero =>
      cases h1
      cases h2
      refine ⟨?_, hM, by omega⟩
      rw [List.getElem?_set_ne (by omega)]
      simp
    | succ j =>
      obtain ⟨a, b, c⟩ := h.ob j r l h1 h2
      exact ⟨old r _ a c, b, c⟩
  · refine List.nodup_cons.mpr ⟨fun hm => ?_, h.nd⟩
    obtain ⟨j, hj⟩ := List.mem_iff_getElem?.mp hm
    have hjl : j < ls.length := by rw [← h.len]; exact (List.getElem?_eq_some_iff.mp hj).1
    have := (h.ob j _ _ hj (List.getElem?_eq_getElem hjl)).1
    exact absurd (List.getElem?_eq_some_iff.mp this).1 (Nat.lt_irrefl _)
/-- the innermost list gets a datum -/
theorem Stk.add {M M' : Hm} {S r : Nat} {rs : List Nat} {l : List MV} {ls : List (List MV)} (h : Stk M M' S (r :: rs) (l :: ls)) (d : MV) : Stk M (M'.set r (.lst (l ++ [d]))) S (r :: rs) ((l ++ [d]) :: ls) := by
  obtain ⟨h1, h2, h3⟩ := h.ob 0 r l rfl rfl
  have hnd := List.nodup_cons.mp h.nd
  refine ⟨Pre.set h.pre h2, ?_, h.ge, by simpa using h.len, fun j r' l' e1 e2 => ?_, h.nd⟩
  · rw [List.getElem?_set_ne h3]
    exact h.at_
  · cases j with
    | zero =>
      cases e1
      cases e2
      exact ⟨set_get h1 _, h2, h3⟩
    | succ j =>
      obtain ⟨a, b, c⟩ := h.ob (j + 1) r' l' e1 e2
      refine ⟨?_, b, c⟩
      have e1' : rs[j]? = some r' := e1
      rw [List.getElem?_set_ne fun z => hnd.1 (by rw [z]; exact List.mem_of_getElem? e1')]
      exact a
/-- the innermost list is taken off -/
theorem Stk.pop {M M' : Hm} {S r : Nat} {rs : List Nat} {l : List MV} {ls : List (List MV)} (h : Stk M M' S (r :: rs) (l :: ls)) : Stk M (M'.set S (.lst (rs.reverse.map MV.ref))) S rs ls := by
  have hnd := List.nodup_cons.mp h.nd
  refine ⟨Pre.set h.pre h.ge, set_get h.at_ _, h.ge, by simpa using h.len, fun j r' l' e1 e2 => ?_, hnd.2⟩
  obtain ⟨a, b, c⟩ := h.ob (j + 1) r' l' e1 e2
  refine ⟨?_, b, c⟩
  rw [List.getElem?_set_ne (Ne.symm c)]
  exact a
theorem Stk.base (M : Hm) : Stk M (M ++ [MO.lst [], MO.lst [.ref M.length]]) (M.length + 1) [M.length] [[]] := by
  refine ⟨Pre.app, ?_, by omega, rfl, fun j r l h1 h2 => ?_, by simp⟩
  · rw [List.getElem?_append_right (by omega)]
    simp
  · cases j with
    | zero =>
      cases h1
      cases h2
      refine ⟨?_, Nat.le_refl _, by omega⟩
      rw [List.getElem?_append_right (by omega)]
      simp
    | succ j => simp at h1
theorem drop_head {s : Tx} {i : Nat} (h : i < s.length) : s.drop i = s[i] :: s.drop (i + 1) := List.drop_eq_getElem_cons h
/-- ahead of a turn: k turns at most to go -/
def RInv (M : Hm) (s : Tx) (k : Nat) (env : Env) (M' : Hm) : Prop := ∃ (i : Nat) (fr : Bool) (rs : List Nat) (ls : List (List MV)) (pv m : Nat) (t u : Option MV), env = [some (.str s), some (.ref (M.length + 1)), some (.int (i : Int)), some (.bl fr), t, u] ∧
      Stk M M' (M.length + 1) rs ls ∧ k + i = s.length ∧ i ≤ s.length ∧ (fr = true → 0 < i → s[i - 1]? = some pv) ∧ (1 < ls.length → 0 < i) ∧ 0 < ls.length ∧ (∀ l ∈ ls, l.length ≤ i) ∧ ls.length ≤ 41 ∧ s.length - i < m ∧
      pgo m ls pv fr (s.drop i) = pgo (s.length + 1) [[]] 0 true s
theorem rpl_cons {c : Nat} {r : Tx} : rpl (c :: r) = if c = 39 then (if 39 ∈ r ∧ plain (r.takeWhile (· != 39)) = true then some (.str (r.takeWhile (· != 39)), (r.takeWhile (· != 39)).length + 2) else none)
    else if okI ((c :: r).takeWhile isS) then some (.int (valI ((c :: r).takeWhile isS)), ((c :: r).takeWhile isS).length) else none := rfl
theorem rpl_le : ∀ (s : Tx) (d : MV) (k : Nat), rpl s = some (d, k) → 0 < k ∧ k ≤ s.length
  | [], d, k, h => by cases h
  | c :: r, d, k, h => by
    rw [rpl_cons] at h
    by_cases h39 : c = 39
    · rw [if_pos h39] at h
      by_cases hh : 39 ∈ r ∧ plain (r.takeWhile (· != 39)) = true
      · rw [if_pos hh] at h
        obtain ⟨v, hv⟩ := tw_split r hh.1
        have := congrArg List.length hv
        rw [List.length_append, List.length_cons] at this
        have hk : k = (r.takeWhile (· != 39)).length + 2 := (congrArg Prod.snd (Option.some.inj h)).symm
        rw [List.length_cons]
        omega
      · rw [if_neg hh] at h
        cases h
    · rw [if_neg h39] at h
      by_cases hh : okI ((c :: r).takeWhile isS)
      · rw [if_pos hh] at h
        have hk : k = ((c :: r).takeWhile isS).length := (congrArg Prod.snd (Option.some.inj h)).symm
        have h1 := tw_len (p := isS) (c :: r)
        refine ⟨?_, by omega⟩
        cases hu : (c :: r).takeWhile isS with
        | nil =>
          rw [hu] at hh
          exact absurd rfl hh.1
        | cons a b => rw [hk, hu]; simp
      · rw [if_neg hh] at h
        cases h
theorem pgo_nil {n : Nat} {stk : List (List MV)} {pv : Nat} {fr : Bool} : pgo (n + 1) stk pv fr [] = (match stk with
    | [[d]] => some d
    | _ => none) := rfl
theorem pgo_cons {n : Nat} {stk : List (List MV)} {pv : Nat} {fr : Bool} {c : Nat} {r : Tx} : pgo (n + 1) stk pv fr (c :: r) =
    if fr = true ∧ c = 40 ∧ stk.length ≤ 40 then pgo n ([] :: stk) 40 true r
    else if c = 41 ∧ 1 < stk.length ∧ (fr = false ∨ pv = 40) then (match stk with
      | top :: nx :: more => pgo n ((nx ++ [.tup top]) :: more) 41 false r
      | _ => none)
    else if fr = false ∧ 1 < stk.length ∧ (c :: r).take 2 = [44, 32] then pgo n stk 32 true (r.drop 1)
    else if fr = true ∧ c ≠ 40 then (match rpl (c :: r) with
      | some (d, k) => (match stk with
        | top :: more => pgo n ((top ++ [d]) :: more) 0 false ((c :: r).drop k)
        | [] => none)
      | none => none)
    else none := rfl
theorem cut2 {s : Tx} {i : Nat} (hlt : i < s.length) : cut s (some (i : Int)) (some ((i : Int) + 2)) = (s[i] :: s.drop (i + 1)).take 2 := by
  rw [show ((i : Int) + 2) = ((i + 2 : Nat) : Int) by omega, cut_mid, Nat.add_sub_cancel_left, drop_head hlt]
theorem last_rev {α : Type} (l : List α) (x : α) : (l.reverse ++ [x])[(l.reverse ++ [x]).length - 1]? = some x := by simp
theorem read_data_ok {n : Nat} {s : Tx} {M : Hm} {Q : MV → Hm → Prop} {E : MX → Hm → Prop} (hl : s.length ≤ 200000)
    (h1 : ∀ d M', pgo (s.length + 1) [[]] 0 true s = some d → Pre M M' → Q d M') (h2 : ∀ M', pgo (s.length + 1) [[]] 0 true s = none → Pre M M' → E ⟨1, none⟩ M') : wp (run tab (n + 3) f_read_data [.str s] M) Q E := by
  refine w_run rfl rfl ?_
  simp [d_read_data, b_read_data]
  refine wS_whl (RInv M s)
    (fun k env M' hi => ?_) WL s.length _ _ (by show _ < 1073741824; omega) ⟨0, true, [M.length], [[]], 0, s.length + 1, none, none, by simp, Stk.base M, by omega, by omega, by simp, by simp, by simp, by simp, by simp, by omega, by simp⟩
  obtain ⟨i, fr, rs, ls, pv, m, t, u, rfl, hS, hk, hi, hpv, h1i, hls, hll, h41, hm, hp⟩ := hi
  obtain ⟨m, rfl⟩ : ∃ m', m = m' + 1 := ⟨m - 1, by omega⟩
  obtain ⟨r0, rs, rfl⟩ : ∃ r rs', rs = r :: rs' := by
    cases rs with
    | nil => have := hS.len; simp at this; omega
    | cons r rs => exact ⟨r, rs, rfl⟩
  obtain ⟨l0, ls, rfl⟩ : ∃ l ls', ls = l :: ls' := by
    cases ls with
    | nil => simp at hls
    | cons l ls => exact ⟨l, ls, rfl⟩
  have hrl := hS.len
  simp at hrl
  obtain ⟨g1, g2, g3⟩ := hS.ob 0 r0 l0 rfl rfl
  have hat := hS.at_
  rw [List.reverse_cons, List.map_append] at hat
  have hlen : ((List.map MV.ref rs.reverse) ++ List.map MV.ref [r0]).length = ls.length + 1 := by simp [hrl]
  simp
  refine ⟨by omega, ifB_p (fun hlt => ?_) fun hge => ?_⟩
  · have hlt : i < s.length := by omega
    have hdr := drop_head hlt
    have hix : ∀ F : Nat → Prop, rdI s (i : Int) F = F s[i] := fun F => by rw [rdI_nat, List.getElem?_eq_getElem hlt]; rfl
    have hsl : s.length ≤ 16777216 := by omega
    rw [hdr] at hp
    have bad : pgo (m + 1) (l0 :: ls) pv fr (s[i] :: s.drop (i + 1)) = none → E ⟨1, none⟩ M' := fun z => h2 _ (by rw [← hp, z]) hS.pre
    have hpr : M'[M.length + 1]? = some (.lst (List.map MV.ref rs.reverse ++ List.map MV.ref [r0])) → ∀ F, rdL (M' ++ [MO.lst []]) (M.length + 1) F = F (List.map MV.ref rs.reverse ++ List.map MV.ref [r0]) := fun z F => rdL_of (by
      rw [List.getElem?_append_left (List.getElem?_eq_some_iff.mp z).1]
      exact z) F
    have toPop : ∀ F : MV → Prop, s[i] = 41 → 1 < ls.length + 1 → ∃ (r1 : Nat) (rs' : List Nat) (l1 : List MV) (ls' : List (List MV)), rs = r1 :: rs' ∧ ls = l1 :: ls' := fun F _ hlen2 => by
      cases ls with
      | nil => simp at hlen2
      | cons l1 ls' =>
        cases rs with
        | nil => simp at hrl
        | cons r1 rs' => exact ⟨r1, rs', l1, ls', rfl, rfl⟩
    have hpop : ∀ (r1 : Nat) (rs' : List Nat) (l1 : List MV) (ls' : List (List MV)) (v : Option MV), rs = r1 :: rs' → ls = l1 :: ls' → pgo m ((l1 ++ [.tup l0]) :: ls') 41 false (s.drop (i + 1)) = pgo (s.length + 1) [[]] 0 true s →
        RInv M s (k - 1) [some (.str s), some (.ref (M.length + 1)), some (.int ((i : Int) + 1)), some (.bl false), some (.tup l0), v] ((M'.set (M.length + 1) (.lst (rs.reverse.map MV.ref))).set r1 (.lst (l1 ++ [.tup l0]))) := by
      rintro r1 rs' l1 ls' v rfl rfl hq
      refine ⟨i + 1, false, r1 :: rs', (l1 ++ [.tup l0]) :: ls', 41, m, some (.tup l0), v, by simp, (hS.pop).add _, by omega, by omega, (fun z => by cases z), fun _ => by omega, by simp, fun l hm => ?_, ?_, by omega, hq⟩
      · rcases List.mem_cons.mp hm with z | z
        · rw [z, List.length_append, List.length_singleton]
          have := hll l1 (by simp)
          omega
        · have := hll l (by simp [z])
          omega
      · simp at h41 ⊢
        omega
    cases fr with
    | true =>
      by_cases h40 : s[i] = 40
      · by_cases hd : ls.length + 1 ≤ 40
        · -- (
          have hpush := hS.push
          have hpp : pgo m ([] :: l0 :: ls) 40 true (s.drop (i + 1)) = pgo (s.length + 1) [[]] 0 true s := by
            rw [← hp, pgo_cons, if_pos ⟨rfl, h40, by simpa using hd⟩]
          simp [hix, rdL_of hat, hlen, c_DEPTH, h40, hsl]
          rw [ifB_true (decide_eq_true (by omega)), hpr hat]
          refine ⟨by rw [hlen]; omega, k - 1, by omega, i + 1, true, M'.length :: r0 :: rs, [] :: l0 :: ls, 40, m, t, u, by simp, ?_, by omega, by omega, fun _ _ => ?_, fun _ => by omega, by simp, fun l hm => ?_, by simp; omega, by omega, hpp⟩
          · have e : (List.map MV.ref (M'.length :: r0 :: rs).reverse) = List.map MV.ref rs.reverse ++ List.map MV.ref [r0] ++ [MV.ref M'.length] := by simp
            rw [e] at hpush
            exact hpush
          · rw [Nat.add_sub_cancel, List.getElem?_eq_getElem hlt, h40]
          · rcases List.mem_cons.mp hm with z | z
            · rw [z]; simp
            · have := hll l z
              omega
        · have hb : pgo (m + 1) (l0 :: ls) pv true (s[i] :: s.drop (i + 1)) = none := by
            rw [pgo_cons, if_neg (fun z => hd (by simpa using z.2.2)), if_neg (fun z => by have := z.1; omega), if_neg (fun z => by cases z.1), if_neg (fun z => z.2 h40)]
          have hb := bad hb
          simp [hix, rdL_of hat, hlen, c_DEPTH, h40, hsl]
          rw [ifB_false (decide_eq_false (by omega))]
          exact hb
      · by_cases h41' : s[i] = 41 ∧ 1 < ls.length + 1 ∧ pv = 40
        · obtain ⟨h41a, hlen2, hpv40⟩ := h41'
          obtain ⟨r1, rs', l1, ls', rfl, rfl⟩ := toPop (fun _ => True) h41a hlen2
          have hi0 : 0 < i := h1i (by simp)
          have hprev := hpv rfl hi0
          have hi1 : ((i : Int) - 1) = ((i - 1 : Nat) : Int) := by omega
          have hq : pgo m ((l1 ++ [.tup l0]) :: ls') 41 false (s.drop (i + 1)) = pgo (s.length + 1) [[]] 0 true s := by
            rw [← hp, pgo_cons, if_neg (fun z => h40 z.2.1), if_pos ⟨h41a, by simp, .inr hpv40⟩]
          have hgo := hpop r1 rs' l1 ls' u rfl rfl hq
          obtain ⟨f1, f2, f3⟩ := hS.ob 1 r1 l1 rfl rfl
          have hne : r0 ≠ r1 := fun z => (List.nodup_cons.mp hS.nd).1 (by rw [z]; exact List.mem_cons_self)
          have hl1 : l1.length < 16777216 := by have := hll l1 (by simp); omega
          have hdl : (List.map MV.ref (r1 :: rs').reverse ++ List.map MV.ref [r0]).dropLast = List.map MV.ref (r1 :: rs').reverse := by simp
          simp [hix, rdL_of hat, hlen, c_DEPTH, h41a, hsl, rdI_nat, hi1, hprev, hpv40]
          rw [ifB_true (decide_eq_true (by omega))]
          have e : List.map MV.ref (r1 :: rs').reverse = (List.map MV.ref rs').reverse ++ [MV.ref r1] := by simp
          rw [e] at hgo
          simp [rdL_ne (Ne.symm g3), rdL_of g1, rdL_set hat, rdL_ne (Ne.symm f3), rdL_of f1, hl1]
          exact ⟨k - 1, by omega, hgo⟩
        · -- a plain one
          have hnoB : ¬ (s[i] = 41 ∧ 1 < (l0 :: ls).length ∧ (true = false ∨ pv = 40)) := fun z => h41' ⟨z.1, by simpa using z.2.1, by rcases z.2.2 with y | y; cases y; exact y⟩
          have hpg : pgo (m + 1) (l0 :: ls) pv true (s[i] :: s.drop (i + 1)) = (match rpl (s[i] :: s.drop (i + 1)) with
              | some (d, k) => pgo m ((l0 ++ [d]) :: ls) 0 false ((s[i] :: s.drop (i + 1)).drop k)
              | none => none) := by
            rw [pgo_cons, if_neg (fun z => h40 z.2.1), if_neg hnoB, if_neg (fun z => by cases z.1), if_pos ⟨rfl, h40⟩]
          have go : wp (run tab (n + 2) f_read_plain [MV.str s, MV.int (i : Int)] M') (fun d M1 => wp (gT 2 (gsCons (gN 5) (gsCons (gN 2) gsNil)) d [some (.str s), some (.ref (M.length + 1)), some (.int (i : Int)), some (.bl true), t, u] M1)
              (fun e1 M2 => rdE e1 1 fun d => wp (fIx d (MV.int (-1)) M2) (fun x M1 => rdTy M1 Ty.list x (rdE e1 5 fun d => wp (fAppend x [d] M1) (fun x M1 => ∃ k', k' < k ∧ RInv M s k' (List.set e1 3 (some (MV.bl false))) M1) fun x M2 => E x M2)) fun x M2 => E x M2)
              fun x M2 => E x M2) (fun x M2 => E x M2) := by
            refine read_plain_ok hl hlt (fun d kk hr => ?_) fun hr => ?_
            · obtain ⟨hk0, hk1⟩ := rpl_le _ _ _ hr
              rw [hdr] at hr
              rw [hr] at hpg
              have hpg : pgo (m + 1) (l0 :: ls) pv true (s[i] :: s.drop (i + 1)) = pgo m ((l0 ++ [d]) :: ls) 0 false ((s[i] :: s.drop (i + 1)).drop kk) := hpg
              rw [← hdr, List.drop_drop] at hpg
              rw [List.length_drop] at hk1
              have hl0 : l0.length < 16777216 := by have := hll l0 (by simp); omega
              simp [rdL_of hat, rdL_of g1, hl0, -Int.natCast_add]
              refine ⟨k - kk, by omega, i + kk, false, r0 :: rs, (l0 ++ [d]) :: ls, 0, m, t, some d, by simp, hS.add d, by omega, by omega, (fun z => by cases z), fun _ => by omega, by simp, fun l hm => ?_, by simpa using h41, by omega, ?_⟩
              · rcases List.mem_cons.mp hm with z | z
                · rw [z, List.length_append, List.length_singleton]
                  have := hll l0 (by simp)
                  omega
                · have := hll l (by simp [z])
                  omega
              · rw [← hpg, hdr]
                exact hp
            · rw [hdr] at hr
              rw [hr] at hpg
              exact bad hpg
          by_cases h41a : s[i] = 41
          · by_cases hlen2 : 1 < ls.length + 1
            · have hi0 : 0 < i := h1i (by simpa using hlen2)
              have hprev := hpv rfl hi0
              have hi1 : ((i : Int) - 1) = ((i - 1 : Nat) : Int) := by omega
              have hpv40 : ¬ pv = 40 := fun z => h41' ⟨h41a, hlen2, z⟩
              simp [hix, rdL_of hat, hlen, c_DEPTH, h41a, hsl, rdI_nat, hi1, hprev, hpv40]
              rw [ifB_true (decide_eq_true (by omega))]
              exact go
            · simp [hix, rdL_of hat, hlen, c_DEPTH, h41a, hsl]
              rw [ifB_false (decide_eq_false (by omega))]
              exact go
          · simp [hix, rdL_of hat, hlen, c_DEPTH, h41a, h40, hsl]
            exact go
    | false =>
      by_cases hB : s[i] = 41 ∧ 1 < ls.length + 1
      · obtain ⟨h41a, hlen2⟩ := hB
        obtain ⟨r1, rs', l1, ls', rfl, rfl⟩ := toPop (fun _ => True) h41a hlen2
        have hq : pgo m ((l1 ++ [.tup l0]) :: ls') 41 false (s.drop (i + 1)) = pgo (s.length + 1) [[]] 0 true s := by
          rw [← hp, pgo_cons, if_neg (fun z => by cases z.1), if_pos ⟨h41a, by simp, .inl rfl⟩]
        have hgo := hpop r1 rs' l1 ls' u rfl rfl hq
        obtain ⟨f1, f2, f3⟩ := hS.ob 1 r1 l1 rfl rfl
        have hl1 : l1.length < 16777216 := by have := hll l1 (by simp); omega
        have hdl : (List.map MV.ref (r1 :: rs').reverse ++ List.map MV.ref [r0]).dropLast = List.map MV.ref (r1 :: rs').reverse := by simp
        simp [hix, rdL_of hat, hlen, c_DEPTH, h41a, hsl]
        rw [ifB_true (decide_eq_true (by omega))]
        have e : List.map MV.ref (r1 :: rs').reverse = (List.map MV.ref rs').reverse ++ [MV.ref r1] := by simp
        rw [e] at hgo
        simp [rdL_ne (Ne.symm g3), rdL_of g1, rdL_set hat, rdL_ne (Ne.symm f3), rdL_of f1, hl1]
        exact ⟨k - 1, by omega, hgo⟩
      · have hnB : ¬ (s[i] = 41 ∧ 1 < (l0 :: ls).length ∧ (false = false ∨ pv = 40)) := fun z => hB ⟨z.1, by simpa using z.2.1⟩
        have hc2 := cut2 hlt
        have go : wp (eT (cNot (cYes)) [] M') (fun _ _ => True) (fun _ _ => True) := by simp
        have go2 : ifB (decide (1 < ((ls.length : Nat) : Int) + 1)) (ifB (decide ((s[i] :: s.drop (i + 1)).take 2 = [44, 32]))
            (∃ k', k' < k ∧ RInv M s k' [some (.str s), some (.ref (M.length + 1)), some (.int ((i : Int) + 2)), some (.bl true), t, u] M') (E ⟨x_BadText, none⟩ M')) (E ⟨x_BadText, none⟩ M') := by
          refine ifB_p (fun hlen2 => ifB_p (fun h2 => ?_) fun h2 => ?_) fun hlen2 => ?_
          · have hq : pgo m (l0 :: ls) 32 true (s.drop (i + 2)) = pgo (s.length + 1) [[]] 0 true s := by
              rw [← hp, pgo_cons, if_neg (fun z => by cases z.1), if_neg hnB, if_pos ⟨rfl, by simp; omega, h2⟩, List.drop_drop]
            have h2l := congrArg List.length h2
            rw [List.length_take, List.length_cons, List.length_drop] at h2l
            have h2i : s[i + 1]? = some 32 := by
              have := congrArg (·[1]?) h2
              simpa [List.getElem?_take, List.getElem?_drop] using this
            have hmin : i + 2 ≤ s.length := by
              have : ([44, 32] : List Nat).length = 2 := rfl
              omega
            exact ⟨k - 2, by omega, i + 2, true, r0 :: rs, l0 :: ls, 32, m, t, u, by simp, hS, by omega, hmin, fun _ _ => h2i, fun _ => by omega, by simp, fun l hm => by have := hll l hm; omega, h41, by omega, hq⟩
          · refine bad ?_
            rw [pgo_cons, if_neg (fun z => by cases z.1), if_neg hnB, if_neg (fun z => h2 z.2.2), if_neg (fun z => by cases z.1)]
          · refine bad ?_
            rw [pgo_cons, if_neg (fun z => by cases z.1), if_neg hnB, if_neg (fun z => hlen2 (by have := z.2.1; simp at this; omega)), if_neg (fun z => by cases z.1)]
        by_cases h41a : s[i] = 41
        · have hlen2 : ¬ 1 < ls.length + 1 := fun z => hB ⟨h41a, z⟩
          rw [h41a] at go2
          simp [hix, rdL_of hat, hlen, c_DEPTH, h41a, hsl, hc2]
          rw [ifB_false (decide_eq_false (by omega))]
          simp at go2
          rw [hrl]
          exact go2
        · simp [hix, rdL_of hat, hlen, c_DEPTH, h41a, hsl, hc2]
          simp at go2
          rw [hrl]
          exact go2
  · have e : i = s.length := by omega
    rw [e, List.drop_length, pgo_nil] at hp
    cases ls with
    | cons l1 ls' =>
      have hnone : pgo (s.length + 1) [[]] 0 true s = none := by
        rw [← hp]
        cases l0 with
        | nil => rfl
        | cons a b => cases b <;> rfl
      have hb : E ⟨1, none⟩ M' := h2 _ hnone hS.pre
      cases rs with
      | nil => simp at hrl
      | cons r1 rs' =>
        simp [rdL_of hat]
        rw [ifB_true (by simp; omega)]
        exact hb
    | nil =>
      cases rs with
      | cons r1 rs' => simp at hrl
      | nil =>
        have hat' : M'[M.length + 1]? = some (.lst [.ref r0]) := hat
        cases l0 with
        | nil =>
          have hb : E ⟨1, none⟩ M' := h2 _ hp.symm hS.pre
          simp [rdL_of hat', rdL_of g1]
          exact hb
        | cons d l0' =>
          cases l0' with
          | nil =>
            have hg : Q d M' := h1 _ _ hp.symm hS.pre
            simp [rdL_of hat', rdL_of g1]
            exact hg
          | cons d2 l0'' =>
            have hb : E ⟨1, none⟩ M' := h2 _ hp.symm hS.pre
            simp [rdL_of hat', rdL_of g1]
            rw [ifB_true (by simp; omega)]
            exact hb
end K00
set_option maxRecDepth 100000
namespace K00
open Mi TL PySem.NumText
/-! ### numbers' texts are read back -/
theorem numT_digs (i : Int) : digs (numT i) = numL i.natAbs := by
  by_cases h : i < 0
  · rw [numT_neg h]
    rfl
  · rw [numT_pos h]
    unfold digs
    rw [if_neg]
    intro z
    obtain ⟨c, r, e⟩ : ∃ c r, numL i.natAbs = c :: r := by
      cases q : numL i.natAbs with
      | nil => exact absurd q (numL_ne _)
      | cons c r => exact ⟨c, r, rfl⟩
    have hd := numL_digits i.natAbs
    rw [e] at z hd
    have : c = 45 := by simpa using z
    have := hd c (by simp)
    omega
theorem numT_ok (i : Int) : okI (numT i) := by
  unfold okI
  rw [numT_digs]
  refine ⟨numL_ne _, fun ⟨h1, h2⟩ => ?_, numL_digits _⟩
  by_cases h0 : i.natAbs = 0
  · have : i = 0 := by omega
    subst this
    exact h2 rfl
  · obtain ⟨c, r, e, hc⟩ := numL_head i.natAbs (by omega)
    rw [e] at h1
    have : c = 48 := by simpa using h1
    omega
theorem numT_val (i : Int) : valI (numT i) = i := by
  unfold valI
  rw [numT_digs, numL_val]
  by_cases h : i < 0
  · rw [numT_neg h, if_pos (show (45 :: numL i.natAbs)[0]? = some 45 from rfl)]
    omega
  · rw [numT_pos h, if_neg]
    · omega
    · intro z
      have := numL_digits i.natAbs 45 (List.mem_of_getElem? z)
      omega
theorem numT_isS (i : Int) : ∀ c ∈ numT i, isS c = true := fun c hc => by
  have key : ∀ c ∈ numL i.natAbs, isS c = true := fun c hc => by
    have := numL_digits _ c hc
    unfold isS
    simp
    omega
  by_cases h : i < 0
  · rw [numT_neg h] at hc
    rcases List.mem_cons.mp hc with z | z
    · rw [z]; rfl
    · exact key c z
  · rw [numT_pos h] at hc
    exact key c hc
theorem numT_ne (i : Int) : numT i ≠ [] := fun z => by
  have := (numT_ok i).1
  rw [z] at this
  exact this rfl
/-- no sign of a number comes next -/
def noS : Tx → Prop
  | [] => True
  | c :: _ => isS c = false
theorem tw_all {p : Nat → Bool} : ∀ (u v : Tx), (∀ c ∈ u, p c = true) → (∀ c r, v = c :: r → p c = false) → (u ++ v).takeWhile p = u
  | [], [], _, _ => rfl
  | [], c :: r, _, h => by rw [List.nil_append, List.takeWhile_cons_of_neg (by simp [h c r rfl])]
  | a :: u, v, h1, h2 => by
    rw [List.cons_append, List.takeWhile_cons_of_pos (h1 a (by simp)), tw_all u v (fun c hc => h1 c (by simp [hc])) h2]
theorem rpl_num (i : Int) (rest : Tx) (h : noS rest) : rpl (numT i ++ rest) = some (.int i, (numT i).length) := by
  obtain ⟨c, r, e⟩ : ∃ c r, numT i = c :: r := by
    cases q : numT i with
    | nil => exact absurd q (numT_ne i)
    | cons c r => exact ⟨c, r, rfl⟩
  have htw : (numT i ++ rest).takeWhile isS = numT i := tw_all _ _ (numT_isS i) fun c r z => by rw [z] at h; exact h
  have hc : c ≠ 39 := fun z => by
    have := numT_isS i c (by rw [e]; simp)
    rw [z] at this
    cases this
  have e2 : numT i ++ rest = c :: (r ++ rest) := by rw [e]; rfl
  rw [e2, rpl_cons, if_neg hc, ← e2, htw, if_pos (numT_ok i), numT_val]
theorem rpl_str (s rest : Tx) (h : plain s = true) : rpl (39 :: (s ++ 39 :: rest)) = some (.str s, s.length + 2) := by
  have htw : (s ++ 39 :: rest).takeWhile (· != 39) = s := tw_all _ _ (fun c hc => by
    have := List.all_eq_true.mp h c hc
    unfold plainC at this
    simp at this
    simp
    omega) fun c r z => by
      cases z
      rfl
  rw [rpl_cons, if_pos rfl, htw, if_pos ⟨by simp, h⟩]
/-! ### data that read_data reads back -/
def Dp : Nat → MV → Prop
  | _, .int _ => True
  | _, .str s => plain s = true
  | n + 1, .tup l => ∀ d ∈ l, Dp n d
  | _, _ => False
theorem read_plainly {d : MV} {c : Nat} {r rest : Tx} {k fuel pv : Nat} {top : List MV} {more : List (List MV)} (hf : (c :: r).length + rest.length < fuel) (h : rpl (c :: r ++ rest) = some (d, (c :: r).length)) (h40 : c ≠ 40) (h41 : c ≠ 41) :
    ∃ f' pv', rest.length < f' ∧ pgo fuel (top :: more) pv true (c :: r ++ rest) = pgo f' ((top ++ [d]) :: more) pv' false rest := by
  obtain ⟨m, rfl⟩ : ∃ m, fuel = m + 1 := ⟨fuel - 1, by omega⟩
  refine ⟨m, 0, by simp at hf; omega, ?_⟩
  rw [List.cons_append, pgo_cons, if_neg (fun z => h40 z.2.1), if_neg (fun z => h41 z.1), if_neg (fun z => by cases z.1), if_pos ⟨rfl, h40⟩]
  rw [List.cons_append] at h
  rw [h]
  show pgo m ((top ++ [d]) :: more) 0 false ((c :: (r ++ rest)).drop (c :: r).length) = _
  congr 1
  show (c :: r ++ rest).drop (c :: r).length = rest
  exact List.drop_left
theorem read_dtx : ∀ (n : Nat) (d : MV) (rest : Tx) (fuel pv : Nat) (top : List MV) (more : List (List MV)), Dp n d → noS rest → (dtx n d).length + rest.length < fuel → more.length + 1 + n ≤ 41 →
    ∃ f' pv', rest.length < f' ∧ pgo fuel (top :: more) pv true (dtx n d ++ rest) = pgo f' ((top ++ [d]) :: more) pv' false rest := by
  have num : ∀ (i : Int) (rest : Tx) (fuel pv : Nat) (top : List MV) (more : List (List MV)), noS rest → (numT i).length + rest.length < fuel →
      ∃ f' pv', rest.length < f' ∧ pgo fuel (top :: more) pv true (numT i ++ rest) = pgo f' ((top ++ [.int i]) :: more) pv' false rest := fun i rest fuel pv top more hn hf => by
    obtain ⟨c, r, e⟩ : ∃ c r, numT i = c :: r := by
      cases q : numT i with
      | nil => exact absurd q (numT_ne i)
      | cons c r => exact ⟨c, r, rfl⟩
    have hs := numT_isS i c (by rw [e]; simp)
    have h1 := rpl_num i rest hn
    rw [e] at h1 hf ⊢
    exact read_plainly (k := 0) hf h1 (fun z => by rw [z] at hs; cases hs) (fun z => by rw [z] at hs; cases hs)
  have str : ∀ (s rest : Tx) (fuel pv : Nat) (top : List MV) (more : List (List MV)), plain s = true → (39 :: (s ++ [39])).length + rest.length < fuel →
      ∃ f' pv', rest.length < f' ∧ pgo fuel (top :: more) pv true (39 :: (s ++ [39]) ++ rest) = pgo f' ((top ++ [.str s]) :: more) pv' false rest := fun s rest fuel pv top more hp hf => by
    have h1 := rpl_str s rest hp
    have e : 39 :: (s ++ 39 :: rest) = 39 :: (s ++ [39]) ++ rest := by simp
    rw [e] at h1
    have e2 : s.length + 2 = (39 :: (s ++ [39])).length := by simp
    rw [e2] at h1
    exact read_plainly (k := 0) hf h1 (by decide) (by decide)
  intro n
  induction n with
  | zero =>
    intro d rest fuel pv top more hd hn hf hm
    cases d with
    | int i => exact num i rest fuel pv top more hn hf
    | str s => exact str s rest fuel pv top more hd hf
    | _ => exact hd.elim
  | succ n ih =>
    intro d rest fuel pv top more hd hn hf hm
    cases d with
    | int i => exact num i rest fuel pv top more hn hf
    | str s => exact str s rest fuel pv top more hd hf
    | tup l =>
      have hd : ∀ d ∈ l, Dp n d := hd
      have hf : (40 :: (joinT [44, 32] (l.map (dtx n)) ++ [41])).length + rest.length < fuel := hf
      show ∃ f' pv', rest.length < f' ∧ pgo fuel (top :: more) pv true (40 :: (joinT [44, 32] (l.map (dtx n)) ++ [41]) ++ rest) = pgo f' ((top ++ [.tup l]) :: more) pv' false rest
      -- the items
      have items : ∀ (ds : List MV) (d : MV) (acc : List MV) (fuel pv : Nat), (∀ x ∈ d :: ds, Dp n x) → (joinT [44, 32] ((d :: ds).map (dtx n))).length + (41 :: rest).length < fuel →
          ∃ f' pv', (41 :: rest).length < f' ∧ pgo fuel (acc :: top :: more) pv true (joinT [44, 32] ((d :: ds).map (dtx n)) ++ 41 :: rest) = pgo f' ((acc ++ d :: ds) :: top :: more) pv' false (41 :: rest) := by
        intro ds
        induction ds with
        | nil =>
          intro d acc fuel pv hx hf
          exact ih d (41 :: rest) fuel pv acc (top :: more) (hx d (by simp)) rfl hf (by simp; omega)
        | cons e ds ihd =>
          intro d acc fuel pv hx hf
          have ej : joinT [44, 32] ((d :: e :: ds).map (dtx n)) ++ 41 :: rest = dtx n d ++ (44 :: 32 :: (joinT [44, 32] ((e :: ds).map (dtx n)) ++ 41 :: rest)) := by
            simp [joinT]
          have el : (joinT [44, 32] ((d :: e :: ds).map (dtx n))).length = (dtx n d).length + 2 + (joinT [44, 32] ((e :: ds).map (dtx n))).length := by
            simp [joinT]
            omega
          rw [ej]
          obtain ⟨f1, pv1, h1, h2⟩ := ih d (44 :: 32 :: (joinT [44, 32] ((e :: ds).map (dtx n)) ++ 41 :: rest)) fuel pv acc (top :: more) (hx d (by simp)) rfl (by
            rw [el] at hf
            simp at hf ⊢
            omega) (by simp; omega)
          obtain ⟨m, rfl⟩ : ∃ m, f1 = m + 1 := ⟨f1 - 1, by omega⟩
          rw [h2, pgo_cons, if_neg (fun z => by cases z.1), if_neg (fun z => by cases z.1), if_pos ⟨rfl, by simp, rfl⟩]
          obtain ⟨f2, pv2, h3, h4⟩ := ihd e (acc ++ [d]) m 32 (fun x hx' => hx x (by simp at hx' ⊢; right; exact hx')) (by simp at h1 ⊢; omega)
          refine ⟨f2, pv2, h3, ?_⟩
          show pgo m ((acc ++ [d]) :: top :: more) 32 true (joinT [44, 32] ((e :: ds).map (dtx n)) ++ 41 :: rest) = _
          rw [h4]
          simp
      obtain ⟨m, rfl⟩ : ∃ m, fuel = m + 1 := ⟨fuel - 1, by omega⟩
      rw [List.cons_append, pgo_cons, if_pos ⟨rfl, rfl, by simp; omega⟩]
      rw [List.append_assoc]
      cases l with
      | nil =>
        obtain ⟨m, rfl⟩ : ∃ m', m = m' + 1 := ⟨m - 1, by simp at hf; omega⟩
        refine ⟨m, 41, by simp [joinT] at hf; omega, ?_⟩
        show pgo (m + 1) ([] :: top :: more) 40 true (41 :: rest) = _
        rw [pgo_cons, if_neg (fun z => by cases z.2.1), if_pos ⟨rfl, by simp, .inr rfl⟩]
      | cons d ds =>
        obtain ⟨f1, pv1, h1, h2⟩ := items ds d [] m 40 hd (by simp at hf ⊢; omega)
        rw [show [41] ++ rest = 41 :: rest from rfl, h2]
        obtain ⟨f1, rfl⟩ : ∃ m', f1 = m' + 1 := ⟨f1 - 1, by omega⟩
        refine ⟨f1, 41, by simp at h1; omega, ?_⟩
        rw [pgo_cons, if_neg (fun z => by cases z.2.1), if_pos ⟨rfl, by simp, .inl rfl⟩]
        rfl
    | _ => exact hd.elim
end K00
set_option maxRecDepth 100000
namespace K00
open Mi TL PySem.NumText
/-! ### texts of data -/
theorem joinT_len (sep : Tx) : ∀ ss : List Tx, (ss.map (·.length)).sum ≤ (joinT sep ss).length ∧ (joinT sep ss).length ≤ (ss.map (·.length)).sum + ss.length * sep.length
  | [] => by simp [joinT]
  | [x] => by simp [joinT]
  | x :: y :: r => by
    obtain ⟨h1, h2⟩ := joinT_len sep (y :: r)
    have e : (joinT sep (x :: y :: r)).length = x.length + sep.length + (joinT sep (y :: r)).length := by
      simp [joinT]
      omega
    rw [e]
    simp at h1 h2 ⊢
    have e3 : (r.length + 1 + 1) * sep.length = (r.length + 1) * sep.length + sep.length := by rw [Nat.add_mul, Nat.one_mul]
    rw [e3]
    constructor
    · omega
    · omega
theorem mem_len {α : Type} {f : α → Nat} : ∀ {l : List α} {x : α}, x ∈ l → f x ≤ (l.map f).sum
  | a :: l, x, h => by
    rw [List.map_cons, List.sum_cons]
    rcases List.mem_cons.mp h with z | z
    · rw [z]; omega
    · have := mem_len (f := f) z; omega
/-- the two writers of data: f the one, num the one of numbers -/
theorem writer_ok {f g : Nat} {d : Df} (hd : tab f = some d) (hnp : d.np = 1) (hns : d.ns = 2) (hb : ∀ G, d.bd G = sSeq (sIf (cV (eFn (fIsi "tuple") (aCons (eVar 0) aNil))) (
sRet (eOp fAdd (eOp fAdd (eC (.str [40])) (eMet .str fJoin (eC (.str [44, 32])) (aCons (eLc (iA (eVar 0)) (gN 1) (cYes) (eCall G f (aCons (eVar 1) aNil)) [1]) aNil))) (eC (.str [41])))) (
sNx)) (
sSeq (sIf (cV (eFn (fIsi "str") (aCons (eVar 0) aNil))) (
sRet (eOp fAdd (eOp fAdd (eC (.str [39])) (eVar 0)) (eC (.str [39])))) (
sNx)) (
sRet (eCall G g (aCons (eVar 0) aNil)))))
    (hg : ∀ (n : Nat) (i : Int) (M : Hm) (Q : MV → Hm → Prop) (E : MX → Hm → Prop), (numL i.natAbs).length ≤ 600 → (∀ M', Pre M M' → Q (.str (numT i)) M') → wp (run tab (n + 2) g [.int i] M) Q E) :
    ∀ (m n : Nat) (x : MV) (M : Hm) (Q : MV → Hm → Prop) (E : MX → Hm → Prop), Dt m x → (dtx m x).length ≤ 100000 → (∀ M', Pre M M' → Q (.str (dtx m x)) M') → wp (run tab (n + m + 3) f [x] M) Q E := by
  have num : ∀ (n : Nat) (i : Int) (M : Hm) (Q : MV → Hm → Prop) (E : MX → Hm → Prop), (numL i.natAbs).length ≤ 600 → (∀ M', Pre M M' → Q (.str (numT i)) M') → wp (run tab (n + 3) f [.int i] M) Q E := fun n i M Q E hl h => by
    refine w_run hd (by rw [hnp]; rfl) ?_
    rw [hb, hnp, hns]
    simp
    exact hg n i M _ _ hl h
  have str : ∀ (n : Nat) (s : Tx) (M : Hm) (Q : MV → Hm → Prop) (E : MX → Hm → Prop), s.length ≤ 600 → Q (.str (39 :: (s ++ [39]))) M → wp (run tab (n + 3) f [.str s] M) Q E := fun n s M Q E hl h => by
    refine w_run hd (by rw [hnp]; rfl) ?_
    rw [hb, hnp, hns]
    simp
    exact ⟨by omega, by omega, h⟩
  intro m
  induction m with
  | zero =>
    intro n x M Q E hx hl h
    cases x with
    | int i => exact num n i M Q E hx h
    | str s => exact str n s M Q E hx (h _ Pre.rfl)
    | _ => exact hx.elim
  | succ m ih =>
    intro n x M Q E hx hl h
    cases x with
    | int i => exact num (n + m + 1) i M Q E hx h
    | str s => exact str (n + m + 1) s M Q E hx (h _ Pre.rfl)
    | tup l =>
      obtain ⟨hll, hx⟩ := hx
      have hl : (40 :: (joinT [44, 32] (l.map (dtx m)) ++ [41])).length ≤ 100000 := hl
      have h : ∀ M', Pre M M' → Q (.str (40 :: (joinT [44, 32] (l.map (dtx m)) ++ [41]))) M' := h
      have hj := joinT_len [44, 32] (l.map (dtx m))
      rw [List.length_map] at hj
      simp at hl
      refine w_run hd (by rw [hnp]; rfl) ?_
      rw [hb, hnp, hns]
      simp
      refine w_lcT (fun k acc M' => acc = (l.map (fun x => MV.str (dtx m x))).take k ∧ Pre M M') ⟨rfl, Pre.rfl⟩ (fun k x acc M' hk hi => ?_) fun acc M' hi => ?_
      · obtain ⟨rfl, hp⟩ := hi
        have hm := List.mem_of_getElem? hk
        have hkl := (List.getElem?_eq_some_iff.mp hk).1
        simp [wipeE]
        refine ih n x M' _ _ (hx x hm) ?_ fun M2 h2 => ?_
        · have := mem_len (f := (·.length)) (List.mem_map_of_mem (f := dtx m) hm)
          omega
        · refine ⟨by omega, ?_, hp.trans h2⟩
          rw [List.take_add_one, List.getElem?_map, hk]
          rfl
      · obtain ⟨rfl, hp⟩ := hi
        rw [List.take_of_length_le (by simp)]
        have ht : textsOf (l.map (fun x => MV.str (dtx m x))) = some (l.map (dtx m)) := by
          have := texts_str (l.map (dtx m))
          rw [List.map_map] at this
          exact this
        simp [ht]
        have e : (List.map ((fun x => List.length x) ∘ dtx m) l).sum = ((l.map (dtx m)).map (·.length)).sum := by rw [List.map_map]
        have h2 : (List.map ((fun x => List.length x) ∘ dtx m) l).sum ≤ 100000 := by rw [e]; omega
        exact ⟨Nat.le_trans (Nat.add_le_add_right h2 _) (by omega), by omega, by omega, h _ (hp.trans Pre.app)⟩
    | _ => exact hx.elim
theorem write_data_ok (m n : Nat) (x : MV) (M : Hm) (Q : MV → Hm → Prop) (E : MX → Hm → Prop) (hx : Dt m x) (hl : (dtx m x).length ≤ 100000) (h : ∀ M', Pre M M' → Q (.str (dtx m x)) M') : wp (run tab (n + m + 3) f_write_data [x] M) Q E :=
  writer_ok (f := f_write_data) (g := f_write_integer) (d := d_write_data) rfl rfl rfl (fun _ => rfl) (fun n i M Q E hl h => write_integer_ok hl h) m n x M Q E hx hl h
theorem datum_text_ok (m n : Nat) (x : MV) (M : Hm) (Q : MV → Hm → Prop) (E : MX → Hm → Prop) (hx : Dt m x) (hl : (dtx m x).length ≤ 100000) (h : ∀ M', Pre M M' → Q (.str (dtx m x)) M') : wp (run tab (n + m + 3) f__law_datum_text [x] M) Q E :=
  writer_ok (f := f__law_datum_text) (g := f__law_figures_of) (d := d__law_datum_text) rfl rfl rfl (fun _ => rfl) (fun n i M Q E hl h => figures_ok hl (h _ Pre.rfl)) m n x M Q E hx hl h
end K00
set_option maxRecDepth 100000
namespace K00
open Mi TL PySem.NumText
/-! ### drawn numbers and data -/
theorem Sta.lt {M : Hm} {a b : Nat} {ns : List Int} (s : Sta M a b ns) : a < M.length := by
  obtain ⟨p, q, r, h⟩ := s.st
  exact (List.getElem?_eq_some_iff.mp h).1
theorem log_small {n : Nat} (h : n < 18446744073709551616) : ((n : Nat) : Int).natAbs.log2 < 9000 := by
  rw [Int.natAbs_natCast]
  have := log2_64 h
  omega
/-- one of a fresh list of two or more, drawn: what is there of l -/
theorem pick_ok {n a b : Nat} {ns : List Int} {l : List MV} {M : Hm} {Q : MV → Hm → Prop} {E : MX → Hm → Prop} {m : Nat} (s : Sta M a b ns) (hl : l.length = m) (h0 : 0 < m) (h64 : m < 1000)
    (h : ∀ d M', d ∈ l → Sta M' a b ns → But a M M' → Q d M') : wp (run tab (n + 1) f__law_draw [.ref a, .int (m : Int)] (M ++ [.lst l])) (fun y M2 => wp (fIx (.ref M.length) y M2) Q E) E := by
  refine draw_ok (s.pre Pre.app) (by omega) (log_small (by omega)) fun i M' h1 h2 s' u => ?_
  obtain ⟨j, rfl⟩ : ∃ j : Nat, i = j := ⟨_, (Int.toNat_of_nonneg h1).symm⟩
  have hj : j < l.length := by omega
  have ha := s.lt
  have hc : M'[M.length]? = some (.lst l) := u _ _ (by omega) (by simp)
  simp [rdL_of hc, rdI_nat, List.getElem?_eq_getElem hj]
  exact h _ _ (List.getElem_mem hj) s' fun i o hi hm => u i o hi (Pre.app i o hm)
theorem long_number_ok {n a b most : Nat} {ns : List Int} {M : Hm} {Q : MV → Hm → Prop} {E : MX → Hm → Prop} (s : Sta M a b ns) (h0 : 0 < most) (h31 : most ≤ 31)
    (h : ∀ (i : Int) M', (numL i.natAbs).length ≤ 18 * most → Sta M' a b ns → But a M M' → Q (.int i) M') : wp (run tab (n + 2) f__law_long_number [.ref a, .int (most : Int)] M) Q E := by
  have c6 : cPow 10 18 = true := by decide
  refine w_run rfl rfl ?_
  simp [d__law_long_number, b__law_long_number, c6]
  refine draw_ok (most := 1000000000000000000) s (by decide) (log_small (n := 1000000000000000000) (by decide)) fun i M1 h1 h2 s1 u1 => ?_
  obtain ⟨v, rfl⟩ : ∃ j : Nat, i = j := ⟨_, (Int.toNat_of_nonneg h1).symm⟩
  refine draw_ok s1 (by omega) (log_small (by omega)) fun i M2 h3 h4 s2 u2 => ?_
  obtain ⟨t, rfl⟩ : ∃ j : Nat, i = j := ⟨_, (Int.toNat_of_nonneg h3).symm⟩
  simp [in62_nat (n := t) (by omega)]
  refine wpS_mono (Q := fun o env M' => o = .nx ∧ Sta M' a b ns ∧ But a M M' ∧ ∃ (v : Nat) (w : Option MV), env = [some (.ref a), some (.int (most : Int)), some (.int (v : Int)), w] ∧ v < 10 ^ (18 * most)) (E := fun _ _ _ => False) ?_ ?_ fun _ _ _ h => h.elim
  · refine wS_forR (fun k env M' => Sta M' a b ns ∧ But a M M' ∧ ∃ (v : Nat) (w : Option MV), env = [some (.ref a), some (.int (most : Int)), some (.int (v : Int)), w] ∧ v < 10 ^ (18 * (k + 1))) ⟨s2, u1.trans u2, v, none, rfl, ?_⟩ ?_ ?_
    · have : (10 : Nat) ^ (18 * (0 + 1)) = 1000000000000000000 := by decide
      omega
    · rintro k env M' hk ⟨s3, u3, v, w, rfl, hv⟩
      simp [c6, cMul_r]
      refine draw_ok (most := 1000000000000000000) s3 (by decide) (log_small (n := 1000000000000000000) (by decide)) fun i M4 h5 h6 s4 u4 => ?_
      obtain ⟨x, rfl⟩ : ∃ j : Nat, i = j := ⟨_, (Int.toNat_of_nonneg h5).symm⟩
      simp
      refine ⟨s4, u3.trans u4, v * 1000000000000000000 + x, by omega, ?_⟩
      have e : (10 : Nat) ^ (18 * (k + 1 + 1)) = 10 ^ (18 * (k + 1)) * 1000000000000000000 := by
        rw [show 18 * (k + 1 + 1) = 18 * (k + 1) + 18 by omega, Nat.pow_add]
      rw [e]
      omega
    · rintro env M' ⟨s3, u3, v, w, rfl, hv⟩
      refine ⟨rfl, s3, u3, v, w, rfl, Nat.lt_of_lt_of_le hv (Nat.pow_le_pow_right (by decide) (by omega))⟩
  · rintro o env M' ⟨rfl, s3, u3, v, w, rfl, hv⟩
    simp
    refine wp_mono (pick_ok (E := E) (Q := fun d M2 => (d = .int 1 ∨ d = .int (-1)) ∧ Sta M2 a b ns ∧ But a M' M2) (l := [.int 1, .int (-1)]) (m := 2) s3 rfl (by decide) (by decide) fun d M2 hd s4 u4 => ⟨by simpa using hd, s4, u4⟩) (fun y M2 hy => ?_) fun _ _ h => h
    refine wp_mono hy (fun d M3 ⟨hd, s4, u4⟩ => ?_) fun _ _ h => h
    have hlen : (numL v).length ≤ 18 * most := numL_len (by omega) hv
    rcases hd with rfl | rfl
    · simp [cMul_r]
      exact h _ _ (by simpa using hlen) s4 (u3.trans u4)
    · simp [cMul_r]
      exact h _ _ (by simpa using hlen) s4 (u3.trans u4)
/-! ### drawn data -/
def Bd : Nat → Nat
  | 0 => 700
  | m + 1 => 3 * (Bd m + 2) + 700
structure Good (m : Nat) (x : MV) : Prop where
  dt : Dt m x
  dp : Dp m x
  len : (dtx m x).length ≤ Bd m
theorem dt_int {m : Nat} {i : Int} : Dt m (.int i) = ((numL i.natAbs).length ≤ 600) := by cases m <;> rfl
theorem dt_str {m : Nat} {s : Tx} : Dt m (.str s) = (s.length ≤ 600) := by cases m <;> rfl
theorem dp_int {m : Nat} {i : Int} : Dp m (.int i) = True := by cases m <;> rfl
theorem dp_str {m : Nat} {s : Tx} : Dp m (.str s) = (plain s = true) := by cases m <;> rfl
theorem dtx_int {m : Nat} {i : Int} : dtx m (.int i) = numT i := by cases m <;> rfl
theorem dtx_str {m : Nat} {s : Tx} : dtx m (.str s) = 39 :: (s ++ [39]) := by cases m <;> rfl
theorem Bd_ge (m : Nat) : 700 ≤ Bd m := by
  cases m with
  | zero => exact Nat.le_refl _
  | succ m => show 700 ≤ 3 * (Bd m + 2) + 700; omega
theorem numT_len (i : Int) : (numT i).length ≤ (numL i.natAbs).length + 1 := by
  by_cases h : i < 0
  · rw [numT_neg h]; simp
  · rw [numT_pos h]; omega
theorem good_int {m : Nat} {i : Int} (h : (numL i.natAbs).length ≤ 600) : Good m (.int i) := by
  refine ⟨by rw [dt_int]; exact h, by rw [dp_int]; trivial, ?_⟩
  rw [dtx_int]
  have := numT_len i
  have := Bd_ge m
  omega
theorem good_str {m : Nat} {s : Tx} (h : s.length ≤ 600) (hp : plain s = true) : Good m (.str s) := by
  refine ⟨by rw [dt_str]; exact h, by rw [dp_str]; exact hp, ?_⟩
  rw [dtx_str]
  have := Bd_ge m
  simp
  omega
theorem good_tup {m : Nat} {l : List MV} (hl : l.length ≤ 3) (h : ∀ x ∈ l, Good m x) : Good (m + 1) (.tup l) := by
  refine ⟨⟨by omega, fun x hx => (h x hx).dt⟩, fun x hx => (h x hx).dp, ?_⟩
  show (40 :: (joinT [44, 32] (l.map (dtx m)) ++ [41])).length ≤ 3 * (Bd m + 2) + 700
  have hj := (joinT_len [44, 32] (l.map (dtx m))).2
  have hs : ((l.map (dtx m)).map (·.length)).sum ≤ l.length * Bd m := by
    clear hj hl
    induction l with
    | nil => simp
    | cons x l ih =>
      have h1 := (h x (by simp)).len
      have h2 := ih fun y hy => h y (by simp [hy])
      have e : (l.length + 1) * Bd m = l.length * Bd m + Bd m := by rw [Nat.add_mul, Nat.one_mul]
      simp only [List.map_cons, List.sum_cons, List.length_cons]
      rw [e]
      omega
  have h3 : l.length * Bd m ≤ 3 * Bd m := Nat.mul_le_mul_right _ hl
  rw [List.length_map] at hj
  have e2 : ([44, 32] : Tx).length = 2 := rfl
  rw [e2] at hj
  rw [List.length_cons, List.length_append, List.length_singleton]
  omega
theorem nums_ok {m n a b : Nat} {ns : List Int} {M : Hm} {Q : MV → Hm → Prop} {E : MX → Hm → Prop} {o : List (Option MV)} (s : Sta M a b ns) (h : ∀ x M', Good m x → Sta M' a b ns → But a M M' → Q x M') :
      wp ((eOp fIx (eLst (aCons (eOp fSub (eCall (run tab (n + 2)) f__law_draw (aCons (eVar 0) (aCons (eC (.int 21)) aNil))) (eC (.int 10))) (aCons (eCall (run tab (n + 2)) f__law_long_number (aCons (eVar 0) (aCons (eC (.int 6)) aNil))) aNil))) (eCall (run tab (n + 2)) f__law_draw (aCons (eVar 0) (aCons (eC (.int 2)) aNil)))) (some (.ref a) :: o) M) Q E := by
  simp
  refine draw_ok (most := 21) s (by decide) (log_small (n := 21) (by decide)) fun i M1 h1 h2 s1 u1 => ?_
  simp
  refine long_number_ok (most := 6) s1 (by decide) (by decide) fun j M2 h3 s2 u2 => ?_
  skip
  refine pick_ok (m := 2) s2 rfl (by decide) (by decide) fun d M3 hd s3 u3 => ?_
  refine h d M3 ?_ s3 (u1.trans (u2.trans u3))
  simp at hd
  rcases hd with rfl | rfl
  · refine good_int (Nat.le_trans (numL_len (k := 2) (by decide) ?_) (by decide))
    have : (10 : Nat) ^ 2 = 100 := by decide
    omega
  · exact good_int (by omega)
theorem strs_ok {m n a b : Nat} {ns : List Int} {M : Hm} {Q : MV → Hm → Prop} {E : MX → Hm → Prop} {o : List (Option MV)} (s : Sta M a b ns) (h : ∀ x M', Good m x → Sta M' a b ns → But a M M' → Q x M') :
      wp ((eOp fIx (eLst (aCons (eC (.str [])) (aCons (eC (.str [97, 32, 98])) (aCons (eC (.str [40, 49, 44, 32, 50, 41])) (aCons (eC (.str [48])) (aCons (eC (.str [120, 35, 121, 44, 32, 122])) (aCons (eC (.str [45])) aNil))))))) (eCall (run tab (n + 2)) f__law_draw (aCons (eVar 0) (aCons (eC (.int 6)) aNil)))) (some (.ref a) :: o) M) Q E := by
  simp
  refine pick_ok (m := 6) s rfl (by decide) (by decide) fun d M3 hd s3 u3 => ?_
  refine h d M3 ?_ s3 u3
  simp at hd
  rcases hd with rfl | rfl | rfl | rfl | rfl | rfl <;> exact good_str (by decide) (by decide)
theorem some_datum_ok : ∀ (m : Nat) {n a b : Nat} {ns : List Int} {M : Hm} {Q : MV → Hm → Prop} {E : MX → Hm → Prop} (s : Sta M a b ns)
    (h : ∀ x M', Good m x → Sta M' a b ns → But a M M' → Q x M'), wp (run tab (n + m + 3) f__law_some_datum [.ref a, .int (m : Int)] M) Q E := by
  intro m
  induction m with
  | zero =>
    intro n a b ns M Q E s h
    refine w_run rfl rfl ?_
    simp [d__law_some_datum, b__law_some_datum]
    refine draw_ok (most := 7) s (by decide) (log_small (n := 7) (by decide)) fun i M1 h1 h2 s1 u1 => ?_
    have hn := nums_ok (m := 0) (n := n) (o := [some (.int 0), some (.int i), none]) (E := E) s1 fun x M' g s' u' => h x M' g s' (u1.trans u')
    have hs := strs_ok (m := 0) (n := n) (o := [some (.int 0), some (.int i), none]) (E := E) s1 fun x M' g s' u' => h x M' g s' (u1.trans u')
    simp at hn hs
    have hi : i = 0 ∨ i = 1 ∨ i = 2 ∨ i = 3 ∨ i = 4 ∨ i = 5 ∨ i = 6 := by omega
    rcases hi with rfl | rfl | rfl | rfl | rfl | rfl | rfl <;> simp <;> first | exact hn | exact hs
  | succ m ih =>
    intro n a b ns M Q E s h
    refine w_run rfl rfl ?_
    simp [d__law_some_datum, b__law_some_datum]
    refine draw_ok (most := 7) s (by decide) (log_small (n := 7) (by decide)) fun i M1 h1 h2 s1 u1 => ?_
    have hn := nums_ok (m := m + 1) (n := n + m + 1) (o := [some (.int ((m : Int) + 1)), some (.int i), none]) (E := E) s1 fun x M' g s' u' => h x M' g s' (u1.trans u')
    have hs := strs_ok (m := m + 1) (n := n + m + 1) (o := [some (.int ((m : Int) + 1)), some (.int i), none]) (E := E) s1 fun x M' g s' u' => h x M' g s' (u1.trans u')
    simp at hn hs
    have hne : ¬ ((m : Int) + 1 = 0) := by omega
    have go : wp (eFn fTuple (aCons (eLc (iRg rg1 (aCons (eCall (run tab (n + m + 3)) f__law_draw (aCons (eVar 0) (aCons (eC (.int 4)) aNil))) aNil)) (gN 3) (cYes) (eCall (run tab (n + m + 3)) f__law_some_datum (aCons (eVar 0) (aCons (eOp fSub (eVar 1) (eC (.int 1))) aNil))) [3]) aNil) [some (.ref a), some (.int ((m : Int) + 1)), some (.int i), none] M1) Q E := by
      simp
      refine draw_ok (most := 4) s1 (by decide) (log_small (n := 4) (by decide)) fun j M2 h3 h4 s2 u2 => ?_
      obtain ⟨j, rfl⟩ : ∃ t : Nat, j = t := ⟨_, (Int.toNat_of_nonneg h3).symm⟩
      simp [in62_nat (n := j) (by omega)]
      refine w_lcR (fun k acc M' => Sta M' a b ns ∧ But a M1 M' ∧ acc.length = k ∧ ∀ x ∈ acc, Good m x) ⟨s2, u2, rfl, by simp⟩ (fun k acc M' hk hi => ?_) fun acc M' hi => ?_
      · obtain ⟨s3, u3, hl, hg⟩ := hi
        have e : ((m : Int) + 1 - 1) = (m : Int) := by omega
        simp [wipeE, e]
        refine ih (n := n) s3 fun x M4 g s4 u4 => ?_
        refine ⟨by omega, s4, u3.trans u4, by omega, fun y hy => ?_⟩
        rcases hy with hy | hy
        · exact hg y hy
        · rw [hy]; exact g
      · obtain ⟨s3, u3, hl, hg⟩ := hi
        skip
        exact h _ _ (good_tup (by omega) hg) (s3.pre Pre.app) (u1.trans (u3.trans Pre.app.but))
    simp at go
    have hi : i = 0 ∨ i = 1 ∨ i = 2 ∨ i = 3 ∨ i = 4 ∨ i = 5 ∨ i = 6 := by omega
    rcases hi with rfl | rfl | rfl | rfl | rfl | rfl | rfl <;> simp [hne] <;> first | exact hn | exact hs | exact go
end K00
set_option maxRecDepth 100000
namespace K00
open Mi TL PySem.NumText
/-! ### what is refused -/
theorem refuses_int {n : Nat} {s : Tx} {M : Hm} {Q : MV → Hm → Prop} {E : MX → Hm → Prop} (hl : s.length ≤ 200000) (hb : ¬ okI s) (h : Q (.bl true) M) :
    wp (run tab (n + 2) f__law_refuses_text [.str [105, 110, 116, 101, 103, 101, 114], .str s] M) Q E := by
  refine w_run rfl rfl ?_
  simp [d__law_refuses_text, b__law_refuses_text]
  rw [wS_try]
  simp
  refine read_integer_ok hl (fun z => absurd z hb) fun _ => ?_
  simp [sub_BadText, suIs, is_AllgoonError]
  exact h
theorem refuses_data {n : Nat} {s : Tx} {M : Hm} {Q : MV → Hm → Prop} {E : MX → Hm → Prop} (hl : s.length ≤ 200000) (hb : pgo (s.length + 1) [[]] 0 true s = none) (h : ∀ M', Pre M M' → Q (.bl true) M') :
    wp (run tab (n + 4) f__law_refuses_text [.str [100, 97, 116, 97], .str s] M) Q E := by
  refine w_run rfl rfl ?_
  simp [d__law_refuses_text, b__law_refuses_text]
  rw [wS_try]
  simp
  refine read_data_ok hl (fun d M' z => by rw [hb] at z; cases z) fun M' _ hp => ?_
  simp [sub_BadText, suIs, is_AllgoonError]
  exact h _ hp
theorem bad_tail {s : Tx} {c : Nat} (hm : c ∈ s.drop 1) (hc : c < 48 ∨ 57 < c) : ¬ okI s := fun z => by
  have hm2 : c ∈ digs s := by
    unfold digs
    split
    · exact hm
    · exact (List.drop_sublist 1 s).subset hm
  have := z.2.2 c hm2
  omega
theorem bad_head {c : Nat} {r : Tx} (hc : c < 48 ∨ 57 < c) (h45 : c ≠ 45) : ¬ okI (c :: r) := fun z => by
  have hd : digs (c :: r) = c :: r := if_neg fun y => h45 (by simpa using y)
  have := z.2.2 c (by rw [hd]; simp)
  omega
theorem bad_zero {r : Tx} (hr : r ≠ []) : ¬ okI (48 :: r) := fun z => by
  have hd : digs (48 :: r) = 48 :: r := if_neg fun y => by simp at y
  refine z.2.1 ⟨by rw [hd]; rfl, fun y => hr ?_⟩
  simpa using y
theorem pg_end {f pv : Nat} {stk : List (List MV)} {rest : Tx} (h : rest.length < f) (hr : (stk.length = 1 ∧ rest ≠ []) ∨ (2 ≤ stk.length ∧ (rest = [] ∨ ∃ r, rest = 44 :: 41 :: r))) : pgo f stk pv false rest = none := by
  obtain ⟨m, rfl⟩ : ∃ m, f = m + 1 := ⟨f - 1, by omega⟩
  rcases hr with ⟨h1, h2⟩ | ⟨h1, h2⟩
  · cases rest with
    | nil => exact absurd rfl h2
    | cons c r => rw [pgo_cons, if_neg (fun z => by cases z.1), if_neg (fun z => by have := z.2.1; omega), if_neg (fun z => by have := z.2.1; omega), if_neg (fun z => by cases z.1)]
  · rcases h2 with rfl | ⟨r, rfl⟩
    · rw [pgo_nil]
      match stk, h1 with
      | [] :: _ :: _, _ => rfl
      | [_] :: _ :: _, _ => rfl
      | (_ :: _ :: _) :: _ :: _, _ => rfl
    · rw [pgo_cons, if_neg (fun z => by cases z.1), if_neg (fun z => by cases z.1), if_neg (fun z => by have := z.2.2; simp at this), if_neg (fun z => by cases z.1)]
theorem bad_after {m : Nat} {d : MV} {rest : Tx} (hd : Dp m d) (hm : m ≤ 40) (hn : noS rest) (hr : rest ≠ []) : pgo ((dtx m d ++ rest).length + 1) [[]] 0 true (dtx m d ++ rest) = none := by
  obtain ⟨f, pv, h1, h2⟩ := read_dtx m d rest ((dtx m d ++ rest).length + 1) 0 [] [] hd hn (by simp) (by simp; omega)
  rw [h2]
  exact pg_end h1 (.inl ⟨rfl, hr⟩)
theorem bad_open {m : Nat} {d : MV} {rest : Tx} (hd : Dp m d) (hm : m ≤ 39) (hn : noS rest) (hr : rest = [] ∨ ∃ r, rest = 44 :: 41 :: r) : pgo ((40 :: (dtx m d ++ rest)).length + 1) [[]] 0 true (40 :: (dtx m d ++ rest)) = none := by
  rw [pgo_cons, if_pos ⟨rfl, rfl, by simp⟩]
  obtain ⟨f, pv, h1, h2⟩ := read_dtx m d rest ((40 :: (dtx m d ++ rest)).length) 40 [] [[]] hd hn (by simp) (by simp; omega)
  rw [h2]
  exact pg_end h1 (.inr ⟨by simp, hr⟩)
theorem good_text {m : Nat} {d : MV} (hd : Dp m d) (hm : m ≤ 40) : pgo ((dtx m d).length + 1) [[]] 0 true (dtx m d) = some d := by
  obtain ⟨f, pv, h1, h2⟩ := read_dtx m d [] ((dtx m d).length + 1) 0 [] [] hd trivial (by simp) (by simp; omega)
  rw [List.append_nil] at h2
  rw [h2]
  obtain ⟨f, rfl⟩ : ∃ k, f = k + 1 := ⟨f - 1, by omega⟩
  rfl
theorem isNone_of {α : Type} {o : Option α} (h : o.isNone = true) : o = none := by
  cases o with
  | none => rfl
  | some a => cases h
/-! ### nested -/
def nest : Nat → MV → MV
  | 0, d => d
  | k + 1, d => .tup [nest k d]
theorem nested_ok {n k : Nat} {d : MV} {M : Hm} {Q : MV → Hm → Prop} {E : MX → Hm → Prop} (hk : k ≤ 100) (h : Q (nest k d) M) : wp (run tab (n + 1) f__law_nested [d, .int (k : Int)] M) Q E := by
  refine w_run rfl rfl ?_
  simp [d__law_nested, b__law_nested, in62_nat (n := k) (by omega)]
  refine wS_forR (fun j env M' => M' = M ∧ ∃ t, env = [some (nest j d), some (.int (k : Int)), t]) ⟨rfl, none, rfl⟩ ?_ ?_
  · rintro j env M' hj ⟨rfl, t, rfl⟩
    simp
    rfl
  · rintro env M' ⟨rfl, t, rfl⟩
    simp
    exact h
theorem nest_dt : ∀ k : Nat, Dt k (nest k (.int 7)) ∧ Dp k (nest k (.int 7)) ∧ (dtx k (nest k (.int 7))).length = 2 * k + 1
  | 0 => ⟨by show (numL 7).length ≤ 600; rw [numL_lt (by decide)]; decide, trivial, by show (numT 7).length = 1; rw [show (7 : Int) = ((7 : Nat) : Int) from rfl, numT_nat, numL_lt (by decide)]; rfl⟩
  | k + 1 => by
    obtain ⟨h1, h2, h3⟩ := nest_dt k
    refine ⟨⟨by simp, fun x hx => by simp at hx; rw [hx]; exact h1⟩, fun x hx => by simp at hx; rw [hx]; exact h2, ?_⟩
    show (40 :: (joinT [44, 32] [dtx k (nest k (.int 7))] ++ [41])).length = _
    simp [joinT, h3]
    omega
theorem nest_deep : ∀ (k f pv : Nat) (stk : List (List MV)) (rest : Tx), 2 * k + 1 + rest.length < f → stk.length + k = 42 → 1 ≤ k → pgo f stk pv true (dtx k (nest k (.int 7)) ++ rest) = none
  | 0, _, _, _, _, _, _, h => by omega
  | k + 1, f, pv, stk, rest, hf, hk, _ => by
    obtain ⟨m, rfl⟩ : ∃ m, f = m + 1 := ⟨f - 1, by omega⟩
    show pgo (m + 1) stk pv true (40 :: (joinT [44, 32] [dtx k (nest k (.int 7))] ++ [41]) ++ rest) = none
    rw [List.cons_append, pgo_cons]
    by_cases h40 : stk.length ≤ 40
    · rw [if_pos ⟨rfl, rfl, h40⟩, List.append_assoc]
      exact nest_deep k m 40 ([] :: stk) ([41] ++ rest) (by simp; omega) (by simp; omega) (by omega)
    · rw [if_neg (fun z => h40 z.2.2), if_neg (fun z => by cases z.1), if_neg (fun z => by cases z.1), if_neg (fun z => z.2 rfl)]
theorem same_str {n : Nat} {s : Tx} {M : Hm} {Q : MV → Hm → Prop} {E : MX → Hm → Prop} (h : Q (.bl true) M) : wp (run tab (n + 1) f__law_same [.str s, .str s] M) Q E := by
  refine w_run rfl rfl ?_
  simp [d__law_same, b__law_same, h]
end K00
set_option maxRecDepth 100000
namespace K00
open Mi TL PySem.NumText
/-- ahead of a turn of the law -/
def LInv (env : Env) (M : Hm) : Prop := ∃ (a b : Nat) (ns : List Int) (x : MV) (t u v w y z : Option MV), env = [some x, some (.ref a), t, u, v, w, y, z] ∧ Sta M a b ns
def LNum (env : Env) (M : Hm) : Prop := ∃ (i : Int) (a b : Nat) (ns : List Int) (x : MV) (t v w y z : Option MV), env = [some x, some (.ref a), t, some (.int i), v, w, y, z] ∧ Sta M a b ns ∧ (numL i.natAbs).length ≤ 600
theorem ok_no {s : Tx} (h : decide (okI s) = false) : ¬ okI s := of_decide_eq_false h
def LDat (env : Env) (M : Hm) : Prop := ∃ (d : MV) (a b : Nat) (ns : List Int) (x : MV) (t u v w z : Option MV), env = [some x, some (.ref a), t, u, v, w, some d, z] ∧ Sta M a b ns ∧ Good 4 d
def badA : List MV := [.str [], .str [40], .str [41], .str [40, 49, 44, 50, 41], .str [40, 49, 44, 32, 41], .str [40, 49, 32, 50, 41], .str [40, 49, 41, 50], .str [39, 97], .str [97, 39], .str [40, 41, 40, 41], .str [40, 44, 41], .str [40, 32, 49, 41], .str [39, 97, 39, 39, 98, 39], .str [40, 49, 44, 32, 32, 50, 41]]
def badB (s : Tx) : List MV := [.str (s ++ [32]), .str (40 :: s), .str (s ++ [41]), .str (s ++ [44, 32, 49]), .str (40 :: (s ++ [44, 41])), .str [49, 46, 48], .str [40, 45, 48, 41], .str [78, 111, 110, 101]]
theorem bad_data {d e : MV} (hd : Dp 4 d) (hl : (dtx 4 d).length ≤ 100000) (he : e ∈ badA ++ badB (dtx 4 d)) : ∃ q : Tx, e = .str q ∧ q.length ≤ 200000 ∧ pgo (q.length + 1) [[]] 0 true q = none := by
  rcases List.mem_append.mp he with h | h
  · simp only [badA, List.mem_cons, List.not_mem_nil, or_false] at h
    rcases h with rfl | rfl | rfl | rfl | rfl | rfl | rfl | rfl | rfl | rfl | rfl | rfl | rfl | rfl <;> exact ⟨_, rfl, by decide, isNone_of (by decide +kernel)⟩
  · simp only [badB, List.mem_cons, List.not_mem_nil, or_false] at h
    rcases h with rfl | rfl | rfl | rfl | rfl | rfl | rfl | rfl
    · exact ⟨_, rfl, by simp; omega, bad_after hd (by decide) rfl (by simp)⟩
    · have := bad_open (rest := []) hd (by decide) trivial (.inl rfl)
      rw [List.append_nil] at this
      exact ⟨_, rfl, by simp; omega, this⟩
    · exact ⟨_, rfl, by simp; omega, bad_after hd (by decide) rfl (by simp)⟩
    · exact ⟨_, rfl, by simp; omega, bad_after hd (by decide) rfl (by simp)⟩
    · exact ⟨_, rfl, by simp; omega, bad_open hd (by decide) rfl (.inr ⟨[], rfl⟩)⟩
    · exact ⟨_, rfl, by decide, isNone_of (by decide +kernel)⟩
    · exact ⟨_, rfl, by decide, isNone_of (by decide +kernel)⟩
    · exact ⟨_, rfl, by decide, isNone_of (by decide +kernel)⟩
theorem keeps : Mi.Keeps tab 60 17 := by
  intro ns hn hb
  obtain ⟨v, M, h, rfl⟩ : ∃ v M, Mi.run tab 60 17 [.rol (ns.map MV.int)] [] = .ok v M ∧ v = .bl true := by
    refine D.wp_ok_of (Q := fun (v : MV) _ => v = MV.bl true) (wp.out ?_)
    refine w_run rfl rfl ?_
    unfold d_law b_law
    dsimp only [List.map, List.replicate, List.append]
    refine wS_cut (fun env M => LInv env M) ?_ ?_
    · simp
      refine start_ok fun a b M' s => ?_
      exact ⟨a, b, ns, _, _, _, _, _, _, _, rfl, s⟩
    rintro env M hi
    refine wS_cut (fun env M => LInv env M) ?_ ?_
    · obtain ⟨a, b, ns, x, t, u, v, w, y, z, rfl, s⟩ := hi
      have h4 : in62 4 = true := by decide
      simp [h4]
      refine wS_forR (fun k env M => LInv env M) ⟨a, b, ns, x, t, u, v, w, y, z, rfl, s⟩ (fun k env M hk hi => ?_) fun env M hi => hi
      clear s
      obtain ⟨a, b, ns, x, t, u, v, w, y, z, rfl, s⟩ := hi
      rw [w_gN]
      -- the number
      refine wS_cut LNum ?_ ?_
      · simp
        refine draw_ok (most := 41) s (by decide) (log_small (n := 41) (by decide)) fun i M1 h1 h2 s1 u1 => ?_
        simp
        refine long_number_ok (most := 30) s1 (by decide) (by decide) fun j M2 h3 s2 u2 => ?_
        skip
        refine pick_ok (m := 2) s2 rfl (by decide) (by decide) fun d M3 hd s3 u3 => ?_
        simp at hd
        rcases hd with rfl | rfl
        · refine ⟨_, a, b, ns, _, _, _, _, _, _, rfl, s3, ?_⟩
          refine Nat.le_trans (numL_len (k := 2) (by decide) ?_) (by decide)
          have : (10 : Nat) ^ 2 = 100 := by decide
          omega
        · exact ⟨_, a, b, ns, _, _, _, _, _, _, rfl, s3, by omega⟩
      clear s
      rintro env M ⟨i, a, b, ns, x, t, v, w, y, z, rfl, s, hi⟩
      have htl := numT_len i
      -- its text
      refine wS_cut (fun env M' => M' = M ∧ env = [some x, some (.ref a), t, some (.int i), some (.str (numT i)), w, y, z]) ?_ ?_
      · simp
        refine figures_ok hi ?_
        simp
      rintro env M' ⟨rfl, rfl⟩
      refine wS_cut (fun env M1 => Pre M' M1 ∧ env = [some x, some (.ref a), t, some (.int i), some (.str (numT i)), w, y, z]) ?_ ?_
      · simp
        refine write_integer_ok hi fun M1 p1 => ?_
        skip
        refine same_str ?_
        simp
        refine read_integer_ok (by omega) (fun _ => ?_) fun h => absurd (numT_ok i) h
        rw [numT_val]
        refine same_ok 0 _ _ _ _ _ (by rw [dt_int]; exact hi) fun M2 p2 => ?_
        simp
        exact p1.trans p2
      rintro env M1 ⟨p1, rfl⟩
      have s := s.pre p1
      clear p1
      refine wS_cut (fun env M2 => env = [some x, some (.ref a), t, some (.int i), some (.str (numT i)), some (.ref M1.length), y, z] ∧ Pre M1 M2 ∧ M2[M1.length]? = some (.lst [.str [], .str [45], .str [45, 48], .str [43, 49], .str [48, 48], .str (48 :: numT i), .str (numT i ++ [32]), .str (32 :: numT i), .str (numT i ++ [45]), .str [45, 45, 49], .str [49, 32, 50], .str [49, 95, 48], .str [120]])) ?_ ?_
      · simp
        exact ⟨by omega, by omega, by omega, by omega, Pre.app⟩
      rintro env M2 ⟨rfl, p2, hl⟩
      have hne : M1.length ≠ a := by have := s.lt; omega
      have s := s.pre p2
      refine wS_cut LNum ?_ ?_
      · simp
        refine one_of_ok s hl hne (by simp) (by simp) fun d M3 hd s3 u3 => ?_
        have hbad : ∃ q : Tx, d = .str q ∧ q.length ≤ 200000 ∧ ¬ okI q := by
          simp only [List.mem_cons, List.not_mem_nil, or_false] at hd
          have ht := numT_ne i
          rcases hd with rfl | rfl | rfl | rfl | rfl | rfl | rfl | rfl | rfl | rfl | rfl | rfl | rfl
          · exact ⟨_, rfl, by decide, by decide⟩
          · exact ⟨_, rfl, by decide, by decide⟩
          · exact ⟨_, rfl, by decide, by decide⟩
          · exact ⟨_, rfl, by decide, by decide⟩
          · exact ⟨_, rfl, by decide, by decide⟩
          · exact ⟨_, rfl, by simp; omega, bad_zero ht⟩
          · refine ⟨_, rfl, by simp; omega, bad_tail (c := 32) ?_ (by decide)⟩
            cases hq : numT i with
            | nil => exact absurd hq ht
            | cons c r => simp
          · exact ⟨_, rfl, by simp; omega, bad_head (by decide) (by decide)⟩
          · refine ⟨_, rfl, by simp; omega, bad_tail (c := 45) ?_ (by decide)⟩
            cases hq : numT i with
            | nil => exact absurd hq ht
            | cons c r => simp
          · exact ⟨_, rfl, by decide, by decide⟩
          · exact ⟨_, rfl, by decide, by decide⟩
          · exact ⟨_, rfl, by decide, by decide⟩
          · exact ⟨_, rfl, by decide, by decide⟩
        obtain ⟨q, rfl, hq1, hq2⟩ := hbad
        refine refuses_int hq1 hq2 ?_
        simp
        exact ⟨i, a, b, ns, x, t, _, _, _, _, rfl, s3, hi⟩
      clear s p2 hl hne
      rintro env M3 ⟨i, a, b, ns, x, t, v, w, y, z, rfl, s, _⟩
      refine wS_cut LDat ?_ ?_
      · simp
        refine some_datum_ok 4 s fun d M4 g s4 u4 => ?_
        exact ⟨d, a, b, ns, x, t, _, _, _, _, rfl, s4, g⟩
      clear s
      rintro env M3 ⟨d, a, b, ns, x, t, u, v, w, z, rfl, s, g⟩
      have hlen : (dtx 4 d).length ≤ 100000 := Nat.le_trans g.len (by decide)
      refine wS_cut (fun env M4 => Pre M3 M4 ∧ env = [some x, some (.ref a), t, u, some (.str (dtx 4 d)), w, some d, z]) ?_ ?_
      · simp
        refine datum_text_ok 4 _ d M3 _ _ g.dt hlen fun M4 p4 => ?_
        simp
        exact p4
      rintro env M4 ⟨p4, rfl⟩
      refine wS_cut (fun env M5 => Pre M4 M5 ∧ env = [some x, some (.ref a), t, u, some (.str (dtx 4 d)), w, some d, z]) ?_ ?_
      · simp
        refine write_data_ok 4 _ d M4 _ _ g.dt hlen fun M5 p5 => ?_
        refine same_str ?_
        simp
        have hgt := good_text g.dp (by decide : 4 ≤ 40)
        refine read_data_ok (by omega) (fun d' M6 hd' p6 => ?_) fun M6 hn _ => by rw [hgt] at hn; cases hn
        rw [hgt] at hd'
        cases hd'
        refine same_ok 4 _ d M6 _ _ g.dt fun M7 p7 => ?_
        simp
        exact p5.trans (p6.trans p7)
      rintro env M5 ⟨p5, rfl⟩
      have s := s.pre (p4.trans p5)
      clear p4 p5
      refine wS_cut (fun env M6 => env = [some x, some (.ref a), t, u, some (.str (dtx 4 d)), some (.ref M5.length), some d, z] ∧ Pre M5 M6 ∧ M6[M5.length]? = some (.lst badA)) ?_ ?_
      · simp [badA]
        exact Pre.app
      rintro env M6 ⟨rfl, p6, hA⟩
      have hne : M5.length ≠ a := by have := s.lt; omega
      have s := s.pre p6
      refine wS_cut (fun env M7 => ∃ k, env = [some x, some (.ref a), t, u, some (.str (dtx 4 d)), some (.ref k), some d, z] ∧ Pre M6 M7 ∧ k ≠ a ∧ M7[k]? = some (.lst (badA ++ badB (dtx 4 d)))) ?_ ?_
      · have hlt : M5.length < M6.length := (List.getElem?_eq_some_iff.mp hA).1
        have hal := s.lt
        simp
        refine ⟨by omega, by omega, by omega, by omega, by omega, by omega, ?_⟩
        rw [w_addL (s := badA) (by rw [List.getElem?_append_left hlt]; exact hA) (by simp; rfl)]
        refine ⟨by simp [badA], ?_⟩
        simp
        refine ⟨Pre.app, by omega, ?_⟩
        rfl
      clear hA hne
      rintro env M7 ⟨k, rfl, p7, hka, hL⟩
      have s := s.pre p7
      simp
      refine one_of_ok s hL hka (by simp [badA]) (by simp [badA, badB]) fun e M8 he s8 u8 => ?_
      obtain ⟨q, rfl, hq1, hq2⟩ := bad_data g.dp hlen he
      refine refuses_data hq1 hq2 fun M9 p9 => ?_
      simp
      exact ⟨a, b, ns, x, t, _, _, _, _, _, rfl, s8.pre p9⟩
    rintro env M ⟨a, b, ns, x, t, u, v, w, y, z, rfl, s⟩
    have h40 := nest_dt 40
    refine wS_cut (fun env M' => M' = M ∧ env = [some x, some (.ref a), t, u, v, w, y, some (nest 40 (.int 7))]) ?_ ?_
    · simp
      refine nested_ok (k := 40) (by decide) ?_
      simp
    rintro env M' ⟨rfl, rfl⟩
    refine wS_cut (fun env M1 => env = [some x, some (.ref a), t, u, v, w, y, some (nest 40 (.int 7))]) ?_ ?_
    · simp
      refine write_data_ok 40 _ _ _ _ _ h40.1 (by rw [h40.2.2]; decide) fun M1 p1 => ?_
      have hgt := good_text h40.2.1 (by decide : 40 ≤ 40)
      refine read_data_ok (by rw [h40.2.2]; decide) (fun d' M6 hd' p6 => ?_) fun M6 hn _ => by rw [hgt] at hn; cases hn
      rw [hgt] at hd'
      cases hd'
      refine same_ok 40 _ _ _ _ _ h40.1 fun M7 p7 => ?_
      simp
    rintro env M1 rfl
    have h41 := nest_dt 41
    simp
    refine nested_ok (k := 41) (by decide) ?_
    refine datum_text_ok 41 _ _ _ _ _ h41.1 (by rw [h41.2.2]; decide) fun M2 p2 => ?_
    refine refuses_data (by rw [h41.2.2]; decide) ?_ fun M3 p3 => ?_
    · have := nest_deep 41 ((dtx 41 (nest 41 (.int 7))).length + 1) 0 [[]] [] (by rw [h41.2.2]; decide) rfl (by decide)
      rw [List.append_nil] at this
      exact this
    · rfl
  exact ⟨M, h⟩
end K00
set_option maxRecDepth 100000
/-! The derivations (printed by gen.py). -/
namespace K00
open PySem PySem.Spec PyProof.Rows L2 Mi
def top (i : Nat) : Stmt := PySem.Challenge.pw_allgoon_k00_integers_and_data.main.body.getD i (.Pass ⟨0, 0, 0, 0⟩)
abbrev st0 : Stmt := top 6
abbrev N0 : List Str := ["n", "chunks", "low"]
abbrev P0 : List Str := ["n"]
theorem sc0 : FnScope N0 P0 (defScope st0) := ⟨rfl, rfl, rfl, by decide +kernel, rfl, by decide +kernel, by decide +kernel⟩
abbrev st1 : Stmt := top 7
abbrev N1 : List Str := ["text", "digits", "char", "head", "n", "start"]
abbrev P1 : List Str := ["text"]
theorem sc1 : FnScope N1 P1 (defScope st1) := ⟨rfl, rfl, rfl, by decide +kernel, rfl, by decide +kernel, by decide +kernel⟩
abbrev st2 : Stmt := top 11
abbrev N2 : List Str := ["datum", "item"]
abbrev P2 : List Str := ["datum"]
theorem sc2 : FnScope N2 P2 (defScope st2) := ⟨rfl, rfl, rfl, by decide +kernel, rfl, by decide +kernel, by decide +kernel⟩
abbrev st3 : Stmt := top 12
abbrev N3 : List Str := ["text", "char"]
abbrev P3 : List Str := ["text"]
theorem sc3 : FnScope N3 P3 (defScope st3) := ⟨rfl, rfl, rfl, by decide +kernel, rfl, by decide +kernel, by decide +kernel⟩
abbrev st4 : Stmt := top 13
abbrev N4 : List Str := ["text", "start", "end"]
abbrev P4 : List Str := ["text", "start"]
theorem sc4 : FnScope N4 P4 (defScope st4) := ⟨rfl, rfl, rfl, by decide +kernel, rfl, by decide +kernel, by decide +kernel⟩
abbrev st5 : Stmt := top 14
abbrev N5 : List Str := ["text", "stack", "index", "fresh", "done", "item"]
abbrev P5 : List Str := ["text"]
theorem sc5 : FnScope N5 P5 (defScope st5) := ⟨rfl, rfl, rfl, by decide +kernel, rfl, by decide +kernel, by decide +kernel⟩
abbrev st6 : Stmt := top 16
abbrev N6 : List Str := ["script"]
abbrev P6 : List Str := ["script"]
theorem sc6 : FnScope N6 P6 (defScope st6) := ⟨rfl, rfl, rfl, by decide +kernel, rfl, by decide +kernel, by decide +kernel⟩
abbrev st7 : Stmt := top 17
abbrev N7 : List Str := ["state", "most", "found", "cell", "mixed"]
abbrev P7 : List Str := ["state", "most"]
theorem sc7 : FnScope N7 P7 (defScope st7) := ⟨rfl, rfl, rfl, by decide +kernel, rfl, by decide +kernel, by decide +kernel⟩
abbrev st8 : Stmt := top 18
abbrev N8 : List Str := ["state", "items"]
abbrev P8 : List Str := ["state", "items"]
theorem sc8 : FnScope N8 P8 (defScope st8) := ⟨rfl, rfl, rfl, by decide +kernel, rfl, by decide +kernel, by decide +kernel⟩
abbrev st9 : Stmt := top 19
abbrev N9 : List Str := ["x"]
abbrev P9 : List Str := ["x"]
theorem sc9 : FnScope N9 P9 (defScope st9) := ⟨rfl, rfl, rfl, by decide +kernel, rfl, by decide +kernel, by decide +kernel⟩
abbrev st10 : Stmt := top 20
abbrev N10 : List Str := ["x", "y", "k"]
abbrev P10 : List Str := ["x", "y"]
theorem sc10 : FnScope N10 P10 (defScope st10) := ⟨rfl, rfl, rfl, by decide +kernel, rfl, by decide +kernel, by decide +kernel⟩
abbrev st11 : Stmt := top 21
abbrev N11 : List Str := ["number", "left", "found", "turn", "low"]
abbrev P11 : List Str := ["number"]
theorem sc11 : FnScope N11 P11 (defScope st11) := ⟨rfl, rfl, rfl, by decide +kernel, rfl, by decide +kernel, by decide +kernel⟩
abbrev st12 : Stmt := top 22
abbrev N12 : List Str := ["state", "most", "number", "turn"]
abbrev P12 : List Str := ["state", "most"]
theorem sc12 : FnScope N12 P12 (defScope st12) := ⟨rfl, rfl, rfl, by decide +kernel, rfl, by decide +kernel, by decide +kernel⟩
abbrev st13 : Stmt := top 23
abbrev N13 : List Str := ["state", "depth", "pick", "k"]
abbrev P13 : List Str := ["state", "depth"]
theorem sc13 : FnScope N13 P13 (defScope st13) := ⟨rfl, rfl, rfl, by decide +kernel, rfl, by decide +kernel, by decide +kernel⟩
abbrev st14 : Stmt := top 24
abbrev N14 : List Str := ["datum", "one"]
abbrev P14 : List Str := ["datum"]
theorem sc14 : FnScope N14 P14 (defScope st14) := ⟨rfl, rfl, rfl, by decide +kernel, rfl, by decide +kernel, by decide +kernel⟩
abbrev st15 : Stmt := top 25
abbrev N15 : List Str := ["datum", "many", "turn"]
abbrev P15 : List Str := ["datum", "many"]
theorem sc15 : FnScope N15 P15 (defScope st15) := ⟨rfl, rfl, rfl, by decide +kernel, rfl, by decide +kernel, by decide +kernel⟩
abbrev st16 : Stmt := top 26
abbrev N16 : List Str := ["kind", "text", "e"]
abbrev P16 : List Str := ["kind", "text"]
theorem sc16 : FnScope N16 P16 (defScope st16) := ⟨rfl, rfl, rfl, by decide +kernel, rfl, by decide +kernel, by decide +kernel⟩
abbrev st17 : Stmt := top 27
abbrev N17 : List Str := ["script", "state", "turn", "number", "text", "bad", "datum", "deep"]
abbrev P17 : List Str := ["script"]
theorem sc17 : FnScope N17 P17 (defScope st17) := ⟨rfl, rfl, rfl, by decide +kernel, rfl, by decide +kernel, by decide +kernel⟩
def ent (fa : Nat → Addr) (fd : Nat → FuncData) : Nat → Option Ent
  | 0 => some ⟨"write_integer", st0, N0, P0, fa 0, fd 0⟩
  | 1 => some ⟨"read_integer", st1, N1, P1, fa 1, fd 1⟩
  | 2 => some ⟨"write_data", st2, N2, P2, fa 2, fd 2⟩
  | 3 => some ⟨"plain_text", st3, N3, P3, fa 3, fd 3⟩
  | 4 => some ⟨"read_plain", st4, N4, P4, fa 4, fd 4⟩
  | 5 => some ⟨"read_data", st5, N5, P5, fa 5, fd 5⟩
  | 6 => some ⟨"_law_start", st6, N6, P6, fa 6, fd 6⟩
  | 7 => some ⟨"_law_draw", st7, N7, P7, fa 7, fd 7⟩
  | 8 => some ⟨"_law_one_of", st8, N8, P8, fa 8, fd 8⟩
  | 9 => some ⟨"_law_is_int", st9, N9, P9, fa 9, fd 9⟩
  | 10 => some ⟨"_law_same", st10, N10, P10, fa 10, fd 10⟩
  | 11 => some ⟨"_law_figures_of", st11, N11, P11, fa 11, fd 11⟩
  | 12 => some ⟨"_law_long_number", st12, N12, P12, fa 12, fd 12⟩
  | 13 => some ⟨"_law_some_datum", st13, N13, P13, fa 13, fd 13⟩
  | 14 => some ⟨"_law_datum_text", st14, N14, P14, fa 14, fd 14⟩
  | 15 => some ⟨"_law_nested", st15, N15, P15, fa 15, fd 15⟩
  | 16 => some ⟨"_law_refuses_text", st16, N16, P16, fa 16, fd 16⟩
  | 17 => some ⟨"law", st17, N17, P17, fa 17, fd 17⟩
  | _ => none
/-- what the top has written -/
structure Txt (cA : Nat → Addr) (K : PySem.W.Frag) (mg : Str → Option Value) (fa : Nat → Addr) : Prop where
  hK : True
  g_write_integer : mg "write_integer" = some (.ref (fa 0))
  g_read_integer : mg "read_integer" = some (.ref (fa 1))
  g_write_data : mg "write_data" = some (.ref (fa 2))
  g_plain_text : mg "plain_text" = some (.ref (fa 3))
  g_read_plain : mg "read_plain" = some (.ref (fa 4))
  g_read_data : mg "read_data" = some (.ref (fa 5))
  g__law_start : mg "_law_start" = some (.ref (fa 6))
  g__law_draw : mg "_law_draw" = some (.ref (fa 7))
  g__law_one_of : mg "_law_one_of" = some (.ref (fa 8))
  g__law_is_int : mg "_law_is_int" = some (.ref (fa 9))
  g__law_same : mg "_law_same" = some (.ref (fa 10))
  g__law_figures_of : mg "_law_figures_of" = some (.ref (fa 11))
  g__law_long_number : mg "_law_long_number" = some (.ref (fa 12))
  g__law_some_datum : mg "_law_some_datum" = some (.ref (fa 13))
  g__law_datum_text : mg "_law_datum_text" = some (.ref (fa 14))
  g__law_nested : mg "_law_nested" = some (.ref (fa 15))
  g__law_refuses_text : mg "_law_refuses_text" = some (.ref (fa 16))
  n_abs : mg "abs" = none
  n_all : mg "all" = none
  n_bool : mg "bool" = none
  n_divmod : mg "divmod" = none
  n_int : mg "int" = none
  n_isinstance : mg "isinstance" = none
  n_len : mg "len" = none
  n_list : mg "list" = none
  n_ord : mg "ord" = none
  n_range : mg "range" = none
  n_str : mg "str" = none
  n_tuple : mg "tuple" = none
  c_BASE : ∃ v u, mg "BASE" = some u ∧ RelV v u ∧ ∀ H ρ, RV K H ρ c_BASE v
  c_DEPTH : ∃ v u, mg "DEPTH" = some u ∧ RelV v u ∧ ∀ H ρ, RV K H ρ c_DEPTH v
  c_DIGITS : ∃ v u, mg "DIGITS" = some u ∧ RelV v u ∧ ∀ H ρ, RV K H ρ c_DIGITS v
  c_SIGNS : ∃ v u, mg "SIGNS" = some u ∧ RelV v u ∧ ∀ H ρ, RV K H ρ c_SIGNS v
  x_AllgoonError : mg "AllgoonError" = some (.ref (cA 0))
  x_BadText : mg "BadText" = some (.ref (cA 1))
  e_AllgoonError : ExC K (cA 0)
  e_BadText : ExC K (cA 1)
  s_BadText : ∀ j b, sub_BadText j = some b → PySem.W.exmOne K (.ref (cA j)) (.ref (cA 1)) = some b
  i_AllgoonError : ∀ j b, is_AllgoonError j = some b → ExcC K (cA j) ∧ PySem.W.kitOne K (.ref (cA j)) (.ref (cA 0)) = some b
section
variable {cA : Nat → Addr} {P : Program} {w : World} {K : PySem.W.Frag} {mg : Str → Option Value} {base : Heap} {fa : Nat → Addr} {fd : Nat → FuncData}
theorem bd0 (T : Txt cA K mg fa) : BodyOk ⟨K, cA⟩ P w K mg base (ent fa fd) ⟨"write_integer", st0, N0, P0, fa 0, fd 0⟩ d_write_integer := fun G cdv A outer s H E cl => by
  have tk : Takes (Ctx P w K mg base ⟨"write_integer", st0, N0, P0, fa 0, fd 0⟩ cdv A outer s H E) (WB E) := takes_of rfl rfl rfl rfl
  have ps := passes_of (X := Ctx P w K mg base ⟨"write_integer", st0, N0, P0, fa 0, fd 0⟩ cdv A outer s H E) rfl
  have hu := cl.room.units
  have hC : (⟨K, cA⟩ : Cfg).K = K := rfl
  have sc := sc0
  show PSs _ _ (tS _ _ (b_write_integer G))
  delta b_write_integer
  exact (ms_cons (m_if (mt_cmp op_ltM sim_lt (m_var (i := 0)) (m_int)) (
ms_one (m_ret (m_op op_addM sim_add (m_str) (m_call (cl.call 0 _ rfl) T.g_write_integer tk (ma_cons (m_un un_neg sim_neg (m_var (i := 0))) ma_nil))))) (
ms_nil)) (
ms_cons (m_set (i := 1) sc.nd (m_lst (ma_nil))) (
ms_cons (m_while ps (mt_cmp op_geM sim_ge (m_var (i := 0)) (m_globE T.c_BASE)) (
ms_cons (m_asg (vs := [0, 2]) (m_bif call_divmodW sim_divmod T.n_divmod (ma_cons (m_var (i := 0)) (ma_cons (m_globE T.c_BASE) ma_nil))) (mg_tup rfl hC (mgs_cons (mg_name (i := 0) sc.nd) (mgs_cons (mg_name (i := 2) sc.nd) (mgs_nil))))) (
ms_one (m_ex (m_met (ty := .list) hC PySem.F.plainAttrs_list PySem.F.slot_list_append PySem.F.type_list_append mt_append sim_append (m_var (i := 1)) (ma_cons (m_met (ty := .str) hC PySem.F.plainAttrs_str PySem.F.slot_str_zfill PySem.F.type_str_zfill mt_zfill sim_zfill (m_bty call_str_int sim_str T.n_str (ma_cons (m_var (i := 2)) ma_nil)) (ma_cons (m_int) ma_nil)) ma_nil)))))) (
ms_cons (m_ex (m_met (ty := .list) hC PySem.F.plainAttrs_list PySem.F.slot_list_append PySem.F.type_list_append mt_append sim_append (m_var (i := 1)) (ma_cons (m_bty call_str_int sim_str T.n_str (ma_cons (m_var (i := 0)) ma_nil)) ma_nil))) (
ms_one (m_ret (m_met (ty := .str) hC PySem.F.plainAttrs_str PySem.F.slot_str_join PySem.F.type_str_join mt_join sim_join (m_str) (ma_cons (m_revL (m_var (i := 1))) ma_nil))))))))
theorem bd1 (T : Txt cA K mg fa) : BodyOk ⟨K, cA⟩ P w K mg base (ent fa fd) ⟨"read_integer", st1, N1, P1, fa 1, fd 1⟩ d_read_integer := fun G cdv A outer s H E cl => by
  have tk : Takes (Ctx P w K mg base ⟨"read_integer", st1, N1, P1, fa 1, fd 1⟩ cdv A outer s H E) (WB E) := takes_of rfl rfl rfl rfl
  have ps := passes_of (X := Ctx P w K mg base ⟨"read_integer", st1, N1, P1, fa 1, fd 1⟩ cdv A outer s H E) rfl
  have hu := cl.room.units
  have hC : (⟨K, cA⟩ : Cfg).K = K := rfl
  have sc := sc1
  show PSs _ _ (tS _ _ (b_read_integer G))
  delta b_read_integer
  exact (ms_cons (m_set (i := 1) sc.nd (m_var (i := 0))) (
ms_cons (m_if (mt_cmp (op_eqM hu) sim_eq (m_slice hC (m_var (i := 0)) (mo_none) (mo_some (m_int))) (m_str)) (
ms_one (m_set (i := 1) sc.nd (m_slice hC (m_var (i := 0)) (mo_some (m_int)) (mo_none)))) (
ms_nil)) (
ms_cons (m_if (PW.pt (mw_or (mt_cmp (op_eqM hu) sim_eq (m_var (i := 1)) (m_str)) (mw_or1 (PW.pt (mw_and (mt_cmp (op_eqM hu) sim_eq (m_ix hC (m_var (i := 1)) (m_int)) (m_str)) (mw_and1 (mt_cmp (op_neM hu) sim_ne (m_var (i := 0)) (m_str)))))))) (
ms_one (m_raise (c := 1) rfl tk T.e_BadText T.x_BadText)) (
ms_nil)) (
ms_cons (m_for (vs := [2]) ps rfl (mi_any hC (m_var (i := 1))) (mg_name (i := 2) sc.nd) (
ms_one (m_if (mt_cmp op_notInM sim_notIn (m_var (i := 2)) (m_globE T.c_DIGITS)) (
ms_one (m_raise (c := 1) rfl tk T.e_BadText T.x_BadText)) (
ms_nil)))) (
ms_cons (m_set (i := 3) sc.nd (m_op op_mod sim_mod (m_bif call_len sim_len T.n_len (ma_cons (m_var (i := 1)) ma_nil)) (m_int))) (
ms_cons (m_set (i := 4) sc.nd (m_int)) (
ms_cons (m_if (mt_cmp op_gtM sim_gt (m_var (i := 3)) (m_int)) (
ms_one (m_set (i := 4) sc.nd (m_bty call_intOf sim_intOf T.n_int (ma_cons (m_slice hC (m_var (i := 1)) (mo_none) (mo_some (m_var (i := 3)))) ma_nil)))) (
ms_nil)) (
ms_cons (m_for (vs := [5]) ps rfl (mi_range3 T.n_range (ma_cons (m_var (i := 3)) (ma_cons (m_bif call_len sim_len T.n_len (ma_cons (m_var (i := 1)) ma_nil)) (ma_cons (m_int) ma_nil)))) (mg_name (i := 5) sc.nd) (
ms_one (m_set (i := 4) sc.nd (m_op op_addM sim_add (m_op op_mulM sim_mul (m_var (i := 4)) (m_globE T.c_BASE)) (m_bty call_intOf sim_intOf T.n_int (ma_cons (m_slice hC (m_var (i := 1)) (mo_some (m_var (i := 5))) (mo_some (m_op op_addM sim_add (m_var (i := 5)) (m_int)))) ma_nil)))))) (
ms_cons (m_if (mt_cmp (op_eqM hu) sim_eq (m_ix hC (m_var (i := 0)) (m_int)) (m_str)) (
ms_one (m_ret (m_un un_neg sim_neg (m_var (i := 4))))) (
ms_nil)) (
ms_one (m_ret (m_var (i := 4)))))))))))))
theorem bd2 (T : Txt cA K mg fa) : BodyOk ⟨K, cA⟩ P w K mg base (ent fa fd) ⟨"write_data", st2, N2, P2, fa 2, fd 2⟩ d_write_data := fun G cdv A outer s H E cl => by
  have tk : Takes (Ctx P w K mg base ⟨"write_data", st2, N2, P2, fa 2, fd 2⟩ cdv A outer s H E) (WB E) := takes_of rfl rfl rfl rfl
  have ps := passes_of (X := Ctx P w K mg base ⟨"write_data", st2, N2, P2, fa 2, fd 2⟩ cdv A outer s H E) rfl
  have hu := cl.room.units
  have hC : (⟨K, cA⟩ : Cfg).K = K := rfl
  have sc := sc2
  show PSs _ _ (tS _ _ (b_write_data G))
  delta b_write_data
  exact (ms_cons (m_if (mt_val (m_isi (c := "tuple") hC (m_var (i := 0)) T.n_isinstance T.n_tuple) hC) (
ms_one (m_ret (m_op op_addM sim_add (m_op op_addM sim_add (m_str) (m_met (ty := .str) hC PySem.F.plainAttrs_str PySem.F.slot_str_join PySem.F.type_str_join mt_join sim_join (m_str) (ma_cons (m_lc (own := [("item", 1)]) rfl sc.nd (mi_any hC (m_var (i := 0))) (blkOk_by (by kernel_rfl)) (fun _ _ _ _ _ => mg_name (i := 1) sc.nd) (fun _ _ _ _ _ => mts_nil) (fun _ _ _ _ _ => m_call (cl.call 2 _ rfl) T.g_write_data takes0 (ma_cons (m_var (i := 1)) ma_nil))) ma_nil))) (m_str)))) (
ms_nil)) (
ms_cons (m_if (mt_val (m_isi (c := "str") hC (m_var (i := 0)) T.n_isinstance T.n_str) hC) (
ms_one (m_ret (m_op op_addM sim_add (m_op op_addM sim_add (m_str) (m_var (i := 0))) (m_str)))) (
ms_nil)) (
ms_one (m_ret (m_call (cl.call 0 _ rfl) T.g_write_integer tk (ma_cons (m_var (i := 0)) ma_nil))))))
theorem bd3 (T : Txt cA K mg fa) : BodyOk ⟨K, cA⟩ P w K mg base (ent fa fd) ⟨"plain_text", st3, N3, P3, fa 3, fd 3⟩ d_plain_text := fun G cdv A outer s H E cl => by
  have tk : Takes (Ctx P w K mg base ⟨"plain_text", st3, N3, P3, fa 3, fd 3⟩ cdv A outer s H E) (WB E) := takes_of rfl rfl rfl rfl
  have ps := passes_of (X := Ctx P w K mg base ⟨"plain_text", st3, N3, P3, fa 3, fd 3⟩ cdv A outer s H E) rfl
  have hu := cl.room.units
  have hC : (⟨K, cA⟩ : Cfg).K = K := rfl
  have sc := sc3
  show PSs _ _ (tS _ _ (b_plain_text G))
  delta b_plain_text
  exact (ms_cons (m_for (vs := [1]) ps rfl (mi_any hC (m_var (i := 0))) (mg_name (i := 1) sc.nd) (
ms_one (m_if (PW.pt (mw_or (mt_cmp op_ltM sim_lt (m_var (i := 1)) (m_str)) (mw_or (mt_cmp op_gtM sim_gt (m_var (i := 1)) (m_str)) (mw_or (mt_cmp (op_eqM hu) sim_eq (m_var (i := 1)) (m_str)) (mw_or1 (mt_cmp (op_eqM hu) sim_eq (m_bif call_ord sim_ord T.n_ord (ma_cons (m_var (i := 1)) ma_nil)) (m_int))))))) (
ms_one (m_ret (m_bl))) (
ms_nil)))) (
ms_one (m_ret (m_bl))))
theorem bd4 (T : Txt cA K mg fa) : BodyOk ⟨K, cA⟩ P w K mg base (ent fa fd) ⟨"read_plain", st4, N4, P4, fa 4, fd 4⟩ d_read_plain := fun G cdv A outer s H E cl => by
  have tk : Takes (Ctx P w K mg base ⟨"read_plain", st4, N4, P4, fa 4, fd 4⟩ cdv A outer s H E) (WB E) := takes_of rfl rfl rfl rfl
  have ps := passes_of (X := Ctx P w K mg base ⟨"read_plain", st4, N4, P4, fa 4, fd 4⟩ cdv A outer s H E) rfl
  have hu := cl.room.units
  have hC : (⟨K, cA⟩ : Cfg).K = K := rfl
  have sc := sc4
  show PSs _ _ (tS _ _ (b_read_plain G))
  delta b_read_plain
  exact (ms_cons (m_if (mt_cmp (op_eqM hu) sim_eq (m_ix hC (m_var (i := 0)) (m_var (i := 1))) (m_str)) (
ms_cons (m_set (i := 2) sc.nd (m_met (ty := .str) hC PySem.F.plainAttrs_str PySem.F.slot_str_find PySem.F.type_str_find mt_find3 sim_find3 (m_var (i := 0)) (ma_cons (m_str) (ma_cons (m_op op_addM sim_add (m_var (i := 1)) (m_int)) ma_nil)))) (
ms_cons (m_if (PW.pt (mw_or (mt_cmp op_ltM sim_lt (m_var (i := 2)) (m_int)) (mw_or1 (mt_not (mt_val (m_call (cl.call 3 _ rfl) T.g_plain_text tk (ma_cons (m_slice hC (m_var (i := 0)) (mo_some (m_op op_addM sim_add (m_var (i := 1)) (m_int))) (mo_some (m_var (i := 2)))) ma_nil)) hC))))) (
ms_one (m_raise (c := 1) rfl tk T.e_BadText T.x_BadText)) (
ms_nil)) (
ms_one (m_ret (m_tup (ma_cons (m_slice hC (m_var (i := 0)) (mo_some (m_op op_addM sim_add (m_var (i := 1)) (m_int))) (mo_some (m_var (i := 2)))) (ma_cons (m_op op_addM sim_add (m_var (i := 2)) (m_int)) ma_nil))))))) (
ms_nil)) (
ms_cons (m_set (i := 2) sc.nd (m_var (i := 1))) (
ms_cons (m_while ps (PW.pt (mw_and (mt_cmp op_ltM sim_lt (m_var (i := 2)) (m_bif call_len sim_len T.n_len (ma_cons (m_var (i := 0)) ma_nil))) (mw_and1 (mt_cmp op_inM sim_in (m_ix hC (m_var (i := 0)) (m_var (i := 2))) (m_globE T.c_SIGNS))))) (
ms_one (m_aug (i := 2) sc.nd inp_addM sim_inpAdd (m_int)))) (
ms_one (m_ret (m_tup (ma_cons (m_call (cl.call 1 _ rfl) T.g_read_integer tk (ma_cons (m_slice hC (m_var (i := 0)) (mo_some (m_var (i := 1))) (mo_some (m_var (i := 2)))) ma_nil)) (ma_cons (m_var (i := 2)) ma_nil))))))))
theorem bd5 (T : Txt cA K mg fa) : BodyOk ⟨K, cA⟩ P w K mg base (ent fa fd) ⟨"read_data", st5, N5, P5, fa 5, fd 5⟩ d_read_data := fun G cdv A outer s H E cl => by
  have tk : Takes (Ctx P w K mg base ⟨"read_data", st5, N5, P5, fa 5, fd 5⟩ cdv A outer s H E) (WB E) := takes_of rfl rfl rfl rfl
  have ps := passes_of (X := Ctx P w K mg base ⟨"read_data", st5, N5, P5, fa 5, fd 5⟩ cdv A outer s H E) rfl
  have hu := cl.room.units
  have hC : (⟨K, cA⟩ : Cfg).K = K := rfl
  have sc := sc5
  show PSs _ _ (tS _ _ (b_read_data G))
  delta b_read_data
  exact (ms_cons (m_set (i := 1) sc.nd (m_lst (ma_cons (m_lst (ma_nil)) ma_nil))) (
ms_cons (m_set (i := 2) sc.nd (m_int)) (
ms_cons (m_set (i := 3) sc.nd (m_bl)) (
ms_cons (m_while ps (mt_cmp op_ltM sim_lt (m_var (i := 2)) (m_bif call_len sim_len T.n_len (ma_cons (m_var (i := 0)) ma_nil))) (
ms_one (m_if (PW.pt (mw_and (mt_val (m_var (i := 3)) hC) (mw_and (mt_cmp (op_eqM hu) sim_eq (m_ix hC (m_var (i := 0)) (m_var (i := 2))) (m_str)) (mw_and1 (mt_cmp op_leM sim_le (m_bif call_len sim_len T.n_len (ma_cons (m_var (i := 1)) ma_nil)) (m_globE T.c_DEPTH)))))) (
ms_cons (m_ex (m_met (ty := .list) hC PySem.F.plainAttrs_list PySem.F.slot_list_append PySem.F.type_list_append mt_append sim_append (m_var (i := 1)) (ma_cons (m_lst (ma_nil)) ma_nil))) (
ms_one (m_aug (i := 2) sc.nd inp_addM sim_inpAdd (m_int)))) (
ms_one (m_if (PW.pt (mw_and (mt_cmp (op_eqM hu) sim_eq (m_ix hC (m_var (i := 0)) (m_var (i := 2))) (m_str)) (mw_and (mt_cmp op_gtM sim_gt (m_bif call_len sim_len T.n_len (ma_cons (m_var (i := 1)) ma_nil)) (m_int)) (mw_and1 (PW.pt (mw_or (mt_not (mt_val (m_var (i := 3)) hC)) (mw_or1 (mt_cmp (op_eqM hu) sim_eq (m_ix hC (m_var (i := 0)) (m_op op_sub sim_int2 (m_var (i := 2)) (m_int))) (m_str))))))))) (
ms_cons (m_set (i := 4) sc.nd (m_bty call_tuple_of sim_tuple T.n_tuple (ma_cons (m_met0 (ty := .list) hC PySem.F.plainAttrs_list PySem.F.slot_list_pop PySem.F.type_list_pop mt_pop sim_pop (m_var (i := 1))) ma_nil))) (
ms_cons (m_ex (m_met (ty := .list) hC PySem.F.plainAttrs_list PySem.F.slot_list_append PySem.F.type_list_append mt_append sim_append (m_ix hC (m_var (i := 1)) (m_un un_neg sim_neg (m_int))) (ma_cons (m_var (i := 4)) ma_nil))) (
ms_cons (m_aug (i := 2) sc.nd inp_addM sim_inpAdd (m_int)) (
ms_one (m_set (i := 3) sc.nd (m_bl)))))) (
ms_one (m_if (PW.pt (mw_and (mt_not (mt_val (m_var (i := 3)) hC)) (mw_and (mt_cmp op_gtM sim_gt (m_bif call_len sim_len T.n_len (ma_cons (m_var (i := 1)) ma_nil)) (m_int)) (mw_and1 (mt_cmp (op_eqM hu) sim_eq (m_slice hC (m_var (i := 0)) (mo_some (m_var (i := 2))) (mo_some (m_op op_addM sim_add (m_var (i := 2)) (m_int)))) (m_str)))))) (
ms_cons (m_aug (i := 2) sc.nd inp_addM sim_inpAdd (m_int)) (
ms_one (m_set (i := 3) sc.nd (m_bl)))) (
ms_one (m_if (PW.pt (mw_and (mt_val (m_var (i := 3)) hC) (mw_and1 (mt_cmp (op_neM hu) sim_ne (m_ix hC (m_var (i := 0)) (m_var (i := 2))) (m_str))))) (
ms_cons (m_asg (vs := [5, 2]) (m_call (cl.call 4 _ rfl) T.g_read_plain tk (ma_cons (m_var (i := 0)) (ma_cons (m_var (i := 2)) ma_nil))) (mg_tup rfl hC (mgs_cons (mg_name (i := 5) sc.nd) (mgs_cons (mg_name (i := 2) sc.nd) (mgs_nil))))) (
ms_cons (m_ex (m_met (ty := .list) hC PySem.F.plainAttrs_list PySem.F.slot_list_append PySem.F.type_list_append mt_append sim_append (m_ix hC (m_var (i := 1)) (m_un un_neg sim_neg (m_int))) (ma_cons (m_var (i := 5)) ma_nil))) (
ms_one (m_set (i := 3) sc.nd (m_bl))))) (
ms_one (m_raise (c := 1) rfl tk T.e_BadText T.x_BadText))))))))))) (
ms_cons (m_if (PW.pt (mw_or (mt_cmp (op_neM hu) sim_ne (m_bif call_len sim_len T.n_len (ma_cons (m_var (i := 1)) ma_nil)) (m_int)) (mw_or1 (mt_cmp (op_neM hu) sim_ne (m_bif call_len sim_len T.n_len (ma_cons (m_ix hC (m_var (i := 1)) (m_int)) ma_nil)) (m_int))))) (
ms_one (m_raise (c := 1) rfl tk T.e_BadText T.x_BadText)) (
ms_nil)) (
ms_one (m_ret (m_ix hC (m_ix hC (m_var (i := 1)) (m_int)) (m_int)))))))))
theorem bd6 (T : Txt cA K mg fa) : BodyOk ⟨K, cA⟩ P w K mg base (ent fa fd) ⟨"_law_start", st6, N6, P6, fa 6, fd 6⟩ d__law_start := fun G cdv A outer s H E cl => by
  have tk : Takes (Ctx P w K mg base ⟨"_law_start", st6, N6, P6, fa 6, fd 6⟩ cdv A outer s H E) (WB E) := takes_of rfl rfl rfl rfl
  have ps := passes_of (X := Ctx P w K mg base ⟨"_law_start", st6, N6, P6, fa 6, fd 6⟩ cdv A outer s H E) rfl
  have hu := cl.room.units
  have hC : (⟨K, cA⟩ : Cfg).K = K := rfl
  have sc := sc6
  show PSs _ _ (tS _ _ (b__law_start G))
  delta b__law_start
  exact (ms_one (m_ret (m_lst (ma_cons (m_bty call_list_of sim_list T.n_list (ma_cons (m_var (i := 0)) ma_nil)) (ma_cons (m_int) (ma_cons (m_int) (ma_cons (m_int) ma_nil)))))))
theorem bd7 (T : Txt cA K mg fa) : BodyOk ⟨K, cA⟩ P w K mg base (ent fa fd) ⟨"_law_draw", st7, N7, P7, fa 7, fd 7⟩ d__law_draw := fun G cdv A outer s H E cl => by
  have tk : Takes (Ctx P w K mg base ⟨"_law_draw", st7, N7, P7, fa 7, fd 7⟩ cdv A outer s H E) (WB E) := takes_of rfl rfl rfl rfl
  have ps := passes_of (X := Ctx P w K mg base ⟨"_law_draw", st7, N7, P7, fa 7, fd 7⟩ cdv A outer s H E) rfl
  have hu := cl.room.units
  have hC : (⟨K, cA⟩ : Cfg).K = K := rfl
  have sc := sc7
  show PSs _ _ (tS _ _ (b__law_draw G))
  delta b__law_draw
  exact (ms_cons (m_asg (vs := []) (m_op op_addM sim_add (m_ix hC (m_var (i := 0)) (m_int)) (m_int)) (mg_ixL (m_var (i := 0)) (m_int))) (
ms_cons (m_if (mt_cmp op_gtM sim_gt (m_ix hC (m_var (i := 0)) (m_int)) (m_int)) (
ms_cons (m_set (i := 2) sc.nd (m_op op_mod sim_mod (m_bty call_intOf sim_intOf T.n_int (ma_cons (m_ix hC (m_var (i := 0)) (m_int)) ma_nil)) (m_var (i := 1)))) (
ms_cons (m_asg (vs := []) (m_op op_fdivW sim_div (m_ix hC (m_var (i := 0)) (m_int)) (m_var (i := 1))) (mg_ixL (m_var (i := 0)) (m_int))) (
ms_one (m_ret (m_var (i := 2)))))) (
ms_nil)) (
ms_cons (m_set (i := 3) sc.nd (m_int)) (
ms_cons (m_if (mt_cmp op_gtM sim_gt (m_bif call_len sim_len T.n_len (ma_cons (m_ix hC (m_var (i := 0)) (m_int)) ma_nil)) (m_int)) (
ms_one (m_set (i := 3) sc.nd (m_bif call_abs sim_abs T.n_abs (ma_cons (m_ix hC (m_ix hC (m_var (i := 0)) (m_int)) (m_op op_mod sim_mod (m_bty call_intOf sim_intOf T.n_int (ma_cons (m_ix hC (m_var (i := 0)) (m_int)) ma_nil)) (m_bif call_len sim_len T.n_len (ma_cons (m_ix hC (m_var (i := 0)) (m_int)) ma_nil)))) ma_nil)))) (
ms_nil)) (
ms_cons (m_asg (vs := []) (m_op op_addM sim_add (m_ix hC (m_var (i := 0)) (m_int)) (m_int)) (mg_ixL (m_var (i := 0)) (m_int))) (
ms_cons (m_if (mt_cmp op_geM sim_ge (m_var (i := 3)) (m_op op_pow sim_pow (m_int) (m_int))) (
ms_cons (m_asg (vs := []) (m_op op_fdivW sim_div (m_var (i := 3)) (m_var (i := 1))) (mg_ixL (m_var (i := 0)) (m_int))) (
ms_one (m_ret (m_op op_mod sim_mod (m_bty call_intOf sim_intOf T.n_int (ma_cons (m_var (i := 3)) ma_nil)) (m_var (i := 1)))))) (
ms_nil)) (
ms_cons (m_set (i := 4) sc.nd (m_op op_mod sim_mod (m_bty call_intOf sim_intOf T.n_int (ma_cons (m_op op_addM sim_add (m_op op_mulM sim_mul (m_op op_addM sim_add (m_var (i := 3)) (m_int)) (m_int)) (m_op op_mulM sim_mul (m_ix hC (m_var (i := 0)) (m_int)) (m_int))) ma_nil)) (m_int))) (
ms_cons (m_set (i := 4) sc.nd (m_op op_mod sim_mod (m_bty call_intOf sim_intOf T.n_int (ma_cons (m_op op_addM sim_add (m_op op_addM sim_add (m_op op_mulM sim_mul (m_var (i := 4)) (m_int)) (m_op op_fdivW sim_div (m_var (i := 3)) (m_int))) (m_ix hC (m_var (i := 0)) (m_int))) ma_nil)) (m_int))) (
ms_one (m_ret (m_op op_mod sim_mod (m_op op_fdivW sim_div (m_var (i := 4)) (m_int)) (m_var (i := 1)))))))))))))
theorem bd8 (T : Txt cA K mg fa) : BodyOk ⟨K, cA⟩ P w K mg base (ent fa fd) ⟨"_law_one_of", st8, N8, P8, fa 8, fd 8⟩ d__law_one_of := fun G cdv A outer s H E cl => by
  have tk : Takes (Ctx P w K mg base ⟨"_law_one_of", st8, N8, P8, fa 8, fd 8⟩ cdv A outer s H E) (WB E) := takes_of rfl rfl rfl rfl
  have ps := passes_of (X := Ctx P w K mg base ⟨"_law_one_of", st8, N8, P8, fa 8, fd 8⟩ cdv A outer s H E) rfl
  have hu := cl.room.units
  have hC : (⟨K, cA⟩ : Cfg).K = K := rfl
  have sc := sc8
  show PSs _ _ (tS _ _ (b__law_one_of G))
  delta b__law_one_of
  exact (ms_one (m_ret (m_ix hC (m_var (i := 1)) (m_call (cl.call 7 _ rfl) T.g__law_draw tk (ma_cons (m_var (i := 0)) (ma_cons (m_bif call_len sim_len T.n_len (ma_cons (m_var (i := 1)) ma_nil)) ma_nil))))))
theorem bd9 (T : Txt cA K mg fa) : BodyOk ⟨K, cA⟩ P w K mg base (ent fa fd) ⟨"_law_is_int", st9, N9, P9, fa 9, fd 9⟩ d__law_is_int := fun G cdv A outer s H E cl => by
  have tk : Takes (Ctx P w K mg base ⟨"_law_is_int", st9, N9, P9, fa 9, fd 9⟩ cdv A outer s H E) (WB E) := takes_of rfl rfl rfl rfl
  have ps := passes_of (X := Ctx P w K mg base ⟨"_law_is_int", st9, N9, P9, fa 9, fd 9⟩ cdv A outer s H E) rfl
  have hu := cl.room.units
  have hC : (⟨K, cA⟩ : Cfg).K = K := rfl
  have sc := sc9
  show PSs _ _ (tS _ _ (b__law_is_int G))
  delta b__law_is_int
  exact (ms_one (m_ret (m_and (m_isi (c := "int") hC (m_var (i := 0)) T.n_isinstance T.n_int) (m_one (m_not (m_isi (c := "bool") hC (m_var (i := 0)) T.n_isinstance T.n_bool))))))
theorem bd10 (T : Txt cA K mg fa) : BodyOk ⟨K, cA⟩ P w K mg base (ent fa fd) ⟨"_law_same", st10, N10, P10, fa 10, fd 10⟩ d__law_same := fun G cdv A outer s H E cl => by
  have tk : Takes (Ctx P w K mg base ⟨"_law_same", st10, N10, P10, fa 10, fd 10⟩ cdv A outer s H E) (WB E) := takes_of rfl rfl rfl rfl
  have ps := passes_of (X := Ctx P w K mg base ⟨"_law_same", st10, N10, P10, fa 10, fd 10⟩ cdv A outer s H E) rfl
  have hu := cl.room.units
  have hC : (⟨K, cA⟩ : Cfg).K = K := rfl
  have sc := sc10
  show PSs _ _ (tS _ _ (b__law_same G))
  delta b__law_same
  exact (ms_cons (m_if (mt_val (m_isi (c := "tuple") hC (m_var (i := 1)) T.n_isinstance T.n_tuple) hC) (
ms_cons (m_if (PW.pt (mw_or (mt_not (mt_val (m_isi (c := "tuple") hC (m_var (i := 0)) T.n_isinstance T.n_tuple) hC)) (mw_or1 (mt_cmp (op_neM hu) sim_ne (m_bif call_len sim_len T.n_len (ma_cons (m_var (i := 0)) ma_nil)) (m_bif call_len sim_len T.n_len (ma_cons (m_var (i := 1)) ma_nil)))))) (
ms_one (m_ret (m_bl))) (
ms_nil)) (
ms_one (m_ret (m_bif (cr_all rfl) sim_allG T.n_all (ma_cons (m_lc (own := [("k", 2)]) rfl sc.nd (mi_range1 T.n_range (ma_cons (m_bif call_len sim_len T.n_len (ma_cons (m_var (i := 1)) ma_nil)) ma_nil)) (blkOk_by (by kernel_rfl)) (fun _ _ _ _ _ => mg_name (i := 2) sc.nd) (fun _ _ _ _ _ => mts_nil) (fun _ _ _ _ _ => m_call (cl.call 10 _ rfl) T.g__law_same takes0 (ma_cons (m_ix hC (m_var (i := 0)) (m_var (i := 2))) (ma_cons (m_ix hC (m_var (i := 1)) (m_var (i := 2))) ma_nil)))) ma_nil))))) (
ms_nil)) (
ms_cons (m_if (mt_val (m_isi (c := "str") hC (m_var (i := 1)) T.n_isinstance T.n_str) hC) (
ms_one (m_ret (m_and (m_isi (c := "str") hC (m_var (i := 0)) T.n_isinstance T.n_str) (m_one (m_cmp (op_eqM hu) sim_eq (m_var (i := 0)) (m_var (i := 1))))))) (
ms_nil)) (
ms_one (m_ret (m_and (m_call (cl.call 9 _ rfl) T.g__law_is_int tk (ma_cons (m_var (i := 0)) ma_nil)) (m_one (m_cmp (op_eqM hu) sim_eq (m_var (i := 0)) (m_var (i := 1)))))))))
theorem bd11 (T : Txt cA K mg fa) : BodyOk ⟨K, cA⟩ P w K mg base (ent fa fd) ⟨"_law_figures_of", st11, N11, P11, fa 11, fd 11⟩ d__law_figures_of := fun G cdv A outer s H E cl => by
  have tk : Takes (Ctx P w K mg base ⟨"_law_figures_of", st11, N11, P11, fa 11, fd 11⟩ cdv A outer s H E) (WB E) := takes_of rfl rfl rfl rfl
  have ps := passes_of (X := Ctx P w K mg base ⟨"_law_figures_of", st11, N11, P11, fa 11, fd 11⟩ cdv A outer s H E) rfl
  have hu := cl.room.units
  have hC : (⟨K, cA⟩ : Cfg).K = K := rfl
  have sc := sc11
  show PSs _ _ (tS _ _ (b__law_figures_of G))
  delta b__law_figures_of
  exact (ms_cons (m_set (i := 1) sc.nd (m_bif call_abs sim_abs T.n_abs (ma_cons (m_var (i := 0)) ma_nil))) (
ms_cons (m_set (i := 2) sc.nd (m_str)) (
ms_cons (m_for (vs := [3]) ps rfl (mi_range1 T.n_range (ma_cons (m_int) ma_nil)) (mg_name (i := 3) sc.nd) (
ms_cons (m_if (mt_cmp op_ltM sim_lt (m_var (i := 1)) (m_op op_pow sim_pow (m_int) (m_int))) (
ms_one (m_break)) (
ms_nil)) (
ms_cons (m_set (i := 4) sc.nd (m_op op_sub sim_int2 (m_var (i := 1)) (m_op op_mulM sim_mul (m_op op_fdivW sim_div (m_var (i := 1)) (m_op op_pow sim_pow (m_int) (m_int))) (m_op op_pow sim_pow (m_int) (m_int))))) (
ms_cons (m_set (i := 2) sc.nd (m_op op_addM sim_add (m_slice hC (m_bty call_str_int sim_str T.n_str (ma_cons (m_op op_addM sim_add (m_op op_pow sim_pow (m_int) (m_int)) (m_var (i := 4))) ma_nil)) (mo_some (m_int)) (mo_none)) (m_var (i := 2)))) (
ms_one (m_set (i := 1) sc.nd (m_op op_fdivW sim_div (m_var (i := 1)) (m_op op_pow sim_pow (m_int) (m_int))))))))) (
ms_cons (m_set (i := 2) sc.nd (m_op op_addM sim_add (m_bty call_str_int sim_str T.n_str (ma_cons (m_var (i := 1)) ma_nil)) (m_var (i := 2)))) (
ms_cons (m_if (mt_cmp op_ltM sim_lt (m_var (i := 0)) (m_int)) (
ms_one (m_ret (m_op op_addM sim_add (m_str) (m_var (i := 2))))) (
ms_nil)) (
ms_one (m_ret (m_var (i := 2)))))))))
theorem bd12 (T : Txt cA K mg fa) : BodyOk ⟨K, cA⟩ P w K mg base (ent fa fd) ⟨"_law_long_number", st12, N12, P12, fa 12, fd 12⟩ d__law_long_number := fun G cdv A outer s H E cl => by
  have tk : Takes (Ctx P w K mg base ⟨"_law_long_number", st12, N12, P12, fa 12, fd 12⟩ cdv A outer s H E) (WB E) := takes_of rfl rfl rfl rfl
  have ps := passes_of (X := Ctx P w K mg base ⟨"_law_long_number", st12, N12, P12, fa 12, fd 12⟩ cdv A outer s H E) rfl
  have hu := cl.room.units
  have hC : (⟨K, cA⟩ : Cfg).K = K := rfl
  have sc := sc12
  show PSs _ _ (tS _ _ (b__law_long_number G))
  delta b__law_long_number
  exact (ms_cons (m_set (i := 2) sc.nd (m_call (cl.call 7 _ rfl) T.g__law_draw tk (ma_cons (m_var (i := 0)) (ma_cons (m_op op_pow sim_pow (m_int) (m_int)) ma_nil)))) (
ms_cons (m_for (vs := [3]) ps rfl (mi_range1 T.n_range (ma_cons (m_call (cl.call 7 _ rfl) T.g__law_draw tk (ma_cons (m_var (i := 0)) (ma_cons (m_var (i := 1)) ma_nil))) ma_nil)) (mg_name (i := 3) sc.nd) (
ms_one (m_set (i := 2) sc.nd (m_op op_addM sim_add (m_op op_mulM sim_mul (m_var (i := 2)) (m_op op_pow sim_pow (m_int) (m_int))) (m_call (cl.call 7 _ rfl) T.g__law_draw tk (ma_cons (m_var (i := 0)) (ma_cons (m_op op_pow sim_pow (m_int) (m_int)) ma_nil))))))) (
ms_one (m_ret (m_op op_mulM sim_mul (m_var (i := 2)) (m_ix hC (m_lst (ma_cons (m_int) (ma_cons (m_un un_neg sim_neg (m_int)) ma_nil))) (m_call (cl.call 7 _ rfl) T.g__law_draw tk (ma_cons (m_var (i := 0)) (ma_cons (m_int) ma_nil)))))))))
theorem bd13 (T : Txt cA K mg fa) : BodyOk ⟨K, cA⟩ P w K mg base (ent fa fd) ⟨"_law_some_datum", st13, N13, P13, fa 13, fd 13⟩ d__law_some_datum := fun G cdv A outer s H E cl => by
  have tk : Takes (Ctx P w K mg base ⟨"_law_some_datum", st13, N13, P13, fa 13, fd 13⟩ cdv A outer s H E) (WB E) := takes_of rfl rfl rfl rfl
  have ps := passes_of (X := Ctx P w K mg base ⟨"_law_some_datum", st13, N13, P13, fa 13, fd 13⟩ cdv A outer s H E) rfl
  have hu := cl.room.units
  have hC : (⟨K, cA⟩ : Cfg).K = K := rfl
  have sc := sc13
  show PSs _ _ (tS _ _ (b__law_some_datum G))
  delta b__law_some_datum
  exact (ms_cons (m_set (i := 2) sc.nd (m_call (cl.call 7 _ rfl) T.g__law_draw tk (ma_cons (m_var (i := 0)) (ma_cons (m_int) ma_nil)))) (
ms_cons (m_if (PW.pt (mw_or (mt_cmp op_ltM sim_lt (m_var (i := 2)) (m_int)) (mw_or1 (PW.pt (mw_and (mt_cmp (op_eqM hu) sim_eq (m_var (i := 1)) (m_int)) (mw_and1 (mt_cmp op_gtM sim_gt (m_var (i := 2)) (m_int)))))))) (
ms_one (m_ret (m_ix hC (m_lst (ma_cons (m_op op_sub sim_int2 (m_call (cl.call 7 _ rfl) T.g__law_draw tk (ma_cons (m_var (i := 0)) (ma_cons (m_int) ma_nil))) (m_int)) (ma_cons (m_call (cl.call 12 _ rfl) T.g__law_long_number tk (ma_cons (m_var (i := 0)) (ma_cons (m_int) ma_nil))) ma_nil))) (m_call (cl.call 7 _ rfl) T.g__law_draw tk (ma_cons (m_var (i := 0)) (ma_cons (m_int) ma_nil)))))) (
ms_nil)) (
ms_cons (m_if (mt_cmp op_ltM sim_lt (m_var (i := 2)) (m_int)) (
ms_one (m_ret (m_ix hC (m_lst (ma_cons (m_str) (ma_cons (m_str) (ma_cons (m_str) (ma_cons (m_str) (ma_cons (m_str) (ma_cons (m_str) ma_nil))))))) (m_call (cl.call 7 _ rfl) T.g__law_draw tk (ma_cons (m_var (i := 0)) (ma_cons (m_int) ma_nil)))))) (
ms_nil)) (
ms_one (m_ret (m_bty call_tuple_of sim_tuple T.n_tuple (ma_cons (m_lc (own := [("k", 3)]) rfl sc.nd (mi_range1 T.n_range (ma_cons (m_call (cl.call 7 _ rfl) T.g__law_draw tk (ma_cons (m_var (i := 0)) (ma_cons (m_int) ma_nil))) ma_nil)) (blkOk_by (by kernel_rfl)) (fun _ _ _ _ _ => mg_name (i := 3) sc.nd) (fun _ _ _ _ _ => mts_nil) (fun _ _ _ _ _ => m_call (cl.call 13 _ rfl) T.g__law_some_datum takes0 (ma_cons (m_var (i := 0)) (ma_cons (m_op op_sub sim_int2 (m_var (i := 1)) (m_int)) ma_nil)))) ma_nil)))))))
theorem bd14 (T : Txt cA K mg fa) : BodyOk ⟨K, cA⟩ P w K mg base (ent fa fd) ⟨"_law_datum_text", st14, N14, P14, fa 14, fd 14⟩ d__law_datum_text := fun G cdv A outer s H E cl => by
  have tk : Takes (Ctx P w K mg base ⟨"_law_datum_text", st14, N14, P14, fa 14, fd 14⟩ cdv A outer s H E) (WB E) := takes_of rfl rfl rfl rfl
  have ps := passes_of (X := Ctx P w K mg base ⟨"_law_datum_text", st14, N14, P14, fa 14, fd 14⟩ cdv A outer s H E) rfl
  have hu := cl.room.units
  have hC : (⟨K, cA⟩ : Cfg).K = K := rfl
  have sc := sc14
  show PSs _ _ (tS _ _ (b__law_datum_text G))
  delta b__law_datum_text
  exact (ms_cons (m_if (mt_val (m_isi (c := "tuple") hC (m_var (i := 0)) T.n_isinstance T.n_tuple) hC) (
ms_one (m_ret (m_op op_addM sim_add (m_op op_addM sim_add (m_str) (m_met (ty := .str) hC PySem.F.plainAttrs_str PySem.F.slot_str_join PySem.F.type_str_join mt_join sim_join (m_str) (ma_cons (m_lc (own := [("one", 1)]) rfl sc.nd (mi_any hC (m_var (i := 0))) (blkOk_by (by kernel_rfl)) (fun _ _ _ _ _ => mg_name (i := 1) sc.nd) (fun _ _ _ _ _ => mts_nil) (fun _ _ _ _ _ => m_call (cl.call 14 _ rfl) T.g__law_datum_text takes0 (ma_cons (m_var (i := 1)) ma_nil))) ma_nil))) (m_str)))) (
ms_nil)) (
ms_cons (m_if (mt_val (m_isi (c := "str") hC (m_var (i := 0)) T.n_isinstance T.n_str) hC) (
ms_one (m_ret (m_op op_addM sim_add (m_op op_addM sim_add (m_str) (m_var (i := 0))) (m_str)))) (
ms_nil)) (
ms_one (m_ret (m_call (cl.call 11 _ rfl) T.g__law_figures_of tk (ma_cons (m_var (i := 0)) ma_nil))))))
theorem bd15 (T : Txt cA K mg fa) : BodyOk ⟨K, cA⟩ P w K mg base (ent fa fd) ⟨"_law_nested", st15, N15, P15, fa 15, fd 15⟩ d__law_nested := fun G cdv A outer s H E cl => by
  have tk : Takes (Ctx P w K mg base ⟨"_law_nested", st15, N15, P15, fa 15, fd 15⟩ cdv A outer s H E) (WB E) := takes_of rfl rfl rfl rfl
  have ps := passes_of (X := Ctx P w K mg base ⟨"_law_nested", st15, N15, P15, fa 15, fd 15⟩ cdv A outer s H E) rfl
  have hu := cl.room.units
  have hC : (⟨K, cA⟩ : Cfg).K = K := rfl
  have sc := sc15
  show PSs _ _ (tS _ _ (b__law_nested G))
  delta b__law_nested
  exact (ms_cons (m_for (vs := [2]) ps rfl (mi_range1 T.n_range (ma_cons (m_var (i := 1)) ma_nil)) (mg_name (i := 2) sc.nd) (
ms_one (m_set (i := 0) sc.nd (m_tup (ma_cons (m_var (i := 0)) ma_nil))))) (
ms_one (m_ret (m_var (i := 0)))))
theorem bd16 (T : Txt cA K mg fa) : BodyOk ⟨K, cA⟩ P w K mg base (ent fa fd) ⟨"_law_refuses_text", st16, N16, P16, fa 16, fd 16⟩ d__law_refuses_text := fun G cdv A outer s H E cl => by
  have tk : Takes (Ctx P w K mg base ⟨"_law_refuses_text", st16, N16, P16, fa 16, fd 16⟩ cdv A outer s H E) (WB E) := takes_of rfl rfl rfl rfl
  have ps := passes_of (X := Ctx P w K mg base ⟨"_law_refuses_text", st16, N16, P16, fa 16, fd 16⟩ cdv A outer s H E) rfl
  have hu := cl.room.units
  have hC : (⟨K, cA⟩ : Cfg).K = K := rfl
  have sc := sc16
  show PSs _ _ (tS _ _ (b__law_refuses_text G))
  delta b__law_refuses_text
  exact (ms_cons (m_try_as (i := 2) hC sc.nd tk T.x_BadText T.s_BadText (fun W2 pn2 xe2 tk2 ps2 => 
ms_one (m_if (mt_cmp (op_eqM hu) sim_eq (m_var (i := 0)) (m_str)) (
ms_one (m_ex (m_call (cl.call 1 _ rfl) T.g_read_integer tk2 (ma_cons (m_var (i := 1)) ma_nil)))) (
ms_one (m_ex (m_call (cl.call 5 _ rfl) T.g_read_data tk2 (ma_cons (m_var (i := 1)) ma_nil)))))) (fun _ _ _ _ _ hz hf => msu_is T.x_AllgoonError T.n_isinstance T.i_AllgoonError hz hf)) (
ms_one (m_ret (m_bl))))
theorem bd17 (T : Txt cA K mg fa) : BodyOk ⟨K, cA⟩ P w K mg base (ent fa fd) ⟨"law", st17, N17, P17, fa 17, fd 17⟩ d_law := fun G cdv A outer s H E cl => by
  have tk : Takes (Ctx P w K mg base ⟨"law", st17, N17, P17, fa 17, fd 17⟩ cdv A outer s H E) (WB E) := takes_of rfl rfl rfl rfl
  have ps := passes_of (X := Ctx P w K mg base ⟨"law", st17, N17, P17, fa 17, fd 17⟩ cdv A outer s H E) rfl
  have hu := cl.room.units
  have hC : (⟨K, cA⟩ : Cfg).K = K := rfl
  have sc := sc17
  show PSs _ _ (tS _ _ (b_law G))
  delta b_law
  exact (ms_cons (m_set (i := 1) sc.nd (m_call (cl.call 6 _ rfl) T.g__law_start tk (ma_cons (m_var (i := 0)) ma_nil))) (
ms_cons (m_for (vs := [2]) ps rfl (mi_range1 T.n_range (ma_cons (m_int) ma_nil)) (mg_name (i := 2) sc.nd) (
ms_cons (m_set (i := 3) sc.nd (m_ix hC (m_lst (ma_cons (m_op op_sub sim_int2 (m_call (cl.call 7 _ rfl) T.g__law_draw tk (ma_cons (m_var (i := 1)) (ma_cons (m_int) ma_nil))) (m_int)) (ma_cons (m_call (cl.call 12 _ rfl) T.g__law_long_number tk (ma_cons (m_var (i := 1)) (ma_cons (m_int) ma_nil))) ma_nil))) (m_call (cl.call 7 _ rfl) T.g__law_draw tk (ma_cons (m_var (i := 1)) (ma_cons (m_int) ma_nil))))) (
ms_cons (m_set (i := 4) sc.nd (m_call (cl.call 11 _ rfl) T.g__law_figures_of tk (ma_cons (m_var (i := 3)) ma_nil))) (
ms_cons (m_if (PW.pt (mw_or (mt_not (mt_val (m_call (cl.call 10 _ rfl) T.g__law_same tk (ma_cons (m_call (cl.call 0 _ rfl) T.g_write_integer tk (ma_cons (m_var (i := 3)) ma_nil)) (ma_cons (m_var (i := 4)) ma_nil))) hC)) (mw_or1 (mt_not (mt_val (m_call (cl.call 10 _ rfl) T.g__law_same tk (ma_cons (m_call (cl.call 1 _ rfl) T.g_read_integer tk (ma_cons (m_var (i := 4)) ma_nil)) (ma_cons (m_var (i := 3)) ma_nil))) hC))))) (
ms_one (m_ret (m_bl))) (
ms_nil)) (
ms_cons (m_set (i := 5) sc.nd (m_lst (ma_cons (m_str) (ma_cons (m_str) (ma_cons (m_str) (ma_cons (m_str) (ma_cons (m_str) (ma_cons (m_op op_addM sim_add (m_str) (m_var (i := 4))) (ma_cons (m_op op_addM sim_add (m_var (i := 4)) (m_str)) (ma_cons (m_op op_addM sim_add (m_str) (m_var (i := 4))) (ma_cons (m_op op_addM sim_add (m_var (i := 4)) (m_str)) (ma_cons (m_str) (ma_cons (m_str) (ma_cons (m_str) (ma_cons (m_str) ma_nil))))))))))))))) (
ms_cons (m_if (mt_not (mt_val (m_call (cl.call 16 _ rfl) T.g__law_refuses_text tk (ma_cons (m_str) (ma_cons (m_call (cl.call 8 _ rfl) T.g__law_one_of tk (ma_cons (m_var (i := 1)) (ma_cons (m_var (i := 5)) ma_nil))) ma_nil))) hC)) (
ms_one (m_ret (m_bl))) (
ms_nil)) (
ms_cons (m_set (i := 6) sc.nd (m_call (cl.call 13 _ rfl) T.g__law_some_datum tk (ma_cons (m_var (i := 1)) (ma_cons (m_int) ma_nil)))) (
ms_cons (m_set (i := 4) sc.nd (m_call (cl.call 14 _ rfl) T.g__law_datum_text tk (ma_cons (m_var (i := 6)) ma_nil))) (
ms_cons (m_if (PW.pt (mw_or (mt_not (mt_val (m_call (cl.call 10 _ rfl) T.g__law_same tk (ma_cons (m_call (cl.call 2 _ rfl) T.g_write_data tk (ma_cons (m_var (i := 6)) ma_nil)) (ma_cons (m_var (i := 4)) ma_nil))) hC)) (mw_or1 (mt_not (mt_val (m_call (cl.call 10 _ rfl) T.g__law_same tk (ma_cons (m_call (cl.call 5 _ rfl) T.g_read_data tk (ma_cons (m_var (i := 4)) ma_nil)) (ma_cons (m_var (i := 6)) ma_nil))) hC))))) (
ms_one (m_ret (m_bl))) (
ms_nil)) (
ms_cons (m_set (i := 5) sc.nd (m_lst (ma_cons (m_str) (ma_cons (m_str) (ma_cons (m_str) (ma_cons (m_str) (ma_cons (m_str) (ma_cons (m_str) (ma_cons (m_str) (ma_cons (m_str) (ma_cons (m_str) (ma_cons (m_str) (ma_cons (m_str) (ma_cons (m_str) (ma_cons (m_str) (ma_cons (m_str) ma_nil)))))))))))))))) (
ms_cons (m_set (i := 5) sc.nd (m_op op_addM sim_add (m_var (i := 5)) (m_lst (ma_cons (m_op op_addM sim_add (m_var (i := 4)) (m_str)) (ma_cons (m_op op_addM sim_add (m_str) (m_var (i := 4))) (ma_cons (m_op op_addM sim_add (m_var (i := 4)) (m_str)) (ma_cons (m_op op_addM sim_add (m_var (i := 4)) (m_str)) (ma_cons (m_op op_addM sim_add (m_op op_addM sim_add (m_str) (m_var (i := 4))) (m_str)) (ma_cons (m_str) (ma_cons (m_str) (ma_cons (m_str) ma_nil))))))))))) (
ms_one (m_if (mt_not (mt_val (m_call (cl.call 16 _ rfl) T.g__law_refuses_text tk (ma_cons (m_str) (ma_cons (m_call (cl.call 8 _ rfl) T.g__law_one_of tk (ma_cons (m_var (i := 1)) (ma_cons (m_var (i := 5)) ma_nil))) ma_nil))) hC)) (
ms_one (m_ret (m_bl))) (
ms_nil)))))))))))))) (
ms_cons (m_set (i := 7) sc.nd (m_call (cl.call 15 _ rfl) T.g__law_nested tk (ma_cons (m_int) (ma_cons (m_int) ma_nil)))) (
ms_cons (m_if (mt_not (mt_val (m_call (cl.call 10 _ rfl) T.g__law_same tk (ma_cons (m_call (cl.call 5 _ rfl) T.g_read_data tk (ma_cons (m_call (cl.call 2 _ rfl) T.g_write_data tk (ma_cons (m_var (i := 7)) ma_nil)) ma_nil)) (ma_cons (m_var (i := 7)) ma_nil))) hC)) (
ms_one (m_ret (m_bl))) (
ms_nil)) (
ms_one (m_ret (m_call (cl.call 16 _ rfl) T.g__law_refuses_text tk (ma_cons (m_str) (ma_cons (m_call (cl.call 14 _ rfl) T.g__law_datum_text tk (ma_cons (m_call (cl.call 15 _ rfl) T.g__law_nested tk (ma_cons (m_int) (ma_cons (m_int) ma_nil))) ma_nil)) ma_nil)))))))))
end
end K00
set_option maxRecDepth 100000
/-! The end (printed by gen.py). -/
namespace K00
open PySem PySem.Spec PyProof.Rows L2 Mi
theorem all_mk {P : Program} {w : World} {K : PySem.W.Frag} {h : Heap} {mg : Str → Option Value} {fa : Addr} (X : K.In h) (G : h.Ns mainGlobals mg) (hfa : mg "law" = some (.ref fa))
    (F0 : ∃ f, FunAt K "write_integer" st0 f)
    (F1 : ∃ f, FunAt K "read_integer" st1 f)
    (F2 : ∃ f, FunAt K "write_data" st2 f)
    (F3 : ∃ f, FunAt K "plain_text" st3 f)
    (F4 : ∃ f, FunAt K "read_plain" st4 f)
    (F5 : ∃ f, FunAt K "read_data" st5 f)
    (F6 : ∃ f, FunAt K "_law_start" st6 f)
    (F7 : ∃ f, FunAt K "_law_draw" st7 f)
    (F8 : ∃ f, FunAt K "_law_one_of" st8 f)
    (F9 : ∃ f, FunAt K "_law_is_int" st9 f)
    (F10 : ∃ f, FunAt K "_law_same" st10 f)
    (F11 : ∃ f, FunAt K "_law_figures_of" st11 f)
    (F12 : ∃ f, FunAt K "_law_long_number" st12 f)
    (F13 : ∃ f, FunAt K "_law_some_datum" st13 f)
    (F14 : ∃ f, FunAt K "_law_datum_text" st14 f)
    (F15 : ∃ f, FunAt K "_law_nested" st15 f)
    (F16 : ∃ f, FunAt K "_law_refuses_text" st16 f)
    (F17 : ∃ f, FunAt K "law" st17 f)
    (n_abs : PySem.W.nsIn K mainGlobals "abs" = some none)
    (n_all : PySem.W.nsIn K mainGlobals "all" = some none)
    (n_bool : PySem.W.nsIn K mainGlobals "bool" = some none)
    (n_divmod : PySem.W.nsIn K mainGlobals "divmod" = some none)
    (n_int : PySem.W.nsIn K mainGlobals "int" = some none)
    (n_isinstance : PySem.W.nsIn K mainGlobals "isinstance" = some none)
    (n_len : PySem.W.nsIn K mainGlobals "len" = some none)
    (n_list : PySem.W.nsIn K mainGlobals "list" = some none)
    (n_ord : PySem.W.nsIn K mainGlobals "ord" = some none)
    (n_range : PySem.W.nsIn K mainGlobals "range" = some none)
    (n_str : PySem.W.nsIn K mainGlobals "str" = some none)
    (n_tuple : PySem.W.nsIn K mainGlobals "tuple" = some none)
    (k_BASE : ConstAt K mg "BASE" c_BASE)
    (k_DEPTH : ConstAt K mg "DEPTH" c_DEPTH)
    (k_DIGITS : ConstAt K mg "DIGITS" c_DIGITS)
    (k_SIGNS : ConstAt K mg "SIGNS" c_SIGNS)
    {c0 c1 : Addr}
    (x0 : PySem.W.nsIn K mainGlobals "AllgoonError" = some (some (.ref c0)))
    (q0 : PySem.W.excIn K c0 [.type "ValueError", .type "Exception", .type "BaseException", .type "object"] "ValueError.__new__" = true)
    (kp0 : PySem.W.keepIn K (.ref c0) = true)
    (sb0 : PySem.W.subIn K (.ref c0) (.type "BaseException") = some true)
    (ty0 : PySem.W.typeIn K (.ref c0) = some (.type "type"))
    (hd0 : PySem.W.hasDictIn K c0 = true)
    (ga0 : PySem.W.findIn K (.ref c0) "__getattribute__" = some (some (.builtin "BaseException.__getattribute__")))
    (gt0 : PySem.W.findIn K (.ref c0) "__getattr__" = some none)
    (ca0 : PySem.W.findIn K (.ref c0) "__class__" = some (some (.builtin "object.__class__")))
    (mo0 : PySem.W.mroIn K c0 (.type "object") = some true)
    (x1 : PySem.W.nsIn K mainGlobals "BadText" = some (some (.ref c1)))
    (q1 : PySem.W.excIn K c1 [.type "ValueError", .type "Exception", .type "BaseException", .type "object"] "ValueError.__new__" = true)
    (kp1 : PySem.W.keepIn K (.ref c1) = true)
    (sb1 : PySem.W.subIn K (.ref c1) (.type "BaseException") = some true)
    (ty1 : PySem.W.typeIn K (.ref c1) = some (.type "type"))
    (hd1 : PySem.W.hasDictIn K c1 = true)
    (ga1 : PySem.W.findIn K (.ref c1) "__getattribute__" = some (some (.builtin "BaseException.__getattribute__")))
    (gt1 : PySem.W.findIn K (.ref c1) "__getattr__" = some none)
    (ca1 : PySem.W.findIn K (.ref c1) "__class__" = some (some (.builtin "object.__class__")))
    (mo1 : PySem.W.mroIn K c1 (.type "object") = some true)
    (gn : PySem.W.specialIn K (.builtin "object.__class__") "__get__" = some (some (.builtin "getset_descriptor.__get__")))
    (tk : PySem.W.takesIn K (.builtin "object.__class__") = some true)
    (s_0_0 : PySem.W.subIn K (.ref c0) (.ref c0) = some true)
    (s_1_0 : PySem.W.subIn K (.ref c1) (.ref c0) = some true)
    (s_0_1 : PySem.W.subIn K (.ref c0) (.ref c1) = some false)
    (s_1_1 : PySem.W.subIn K (.ref c1) (.ref c1) = some true) :
    ∃ fd : FuncData, (∀ (s : Shared) (u : Value), BindsTo s fd ⟨[u], []⟩ [("script", u)]) ∧ ∀ base : Heap, K.In base → base.Ns mainGlobals mg → FnOk P w K mg base (L2.CX P w) 62 fa fd ["script"] (spLaw K) := by
  obtain ⟨f0, a0, u0, F0⟩ := F0
  obtain ⟨f1, a1, u1, F1⟩ := F1
  obtain ⟨f2, a2, u2, F2⟩ := F2
  obtain ⟨f3, a3, u3, F3⟩ := F3
  obtain ⟨f4, a4, u4, F4⟩ := F4
  obtain ⟨f5, a5, u5, F5⟩ := F5
  obtain ⟨f6, a6, u6, F6⟩ := F6
  obtain ⟨f7, a7, u7, F7⟩ := F7
  obtain ⟨f8, a8, u8, F8⟩ := F8
  obtain ⟨f9, a9, u9, F9⟩ := F9
  obtain ⟨f10, a10, u10, F10⟩ := F10
  obtain ⟨f11, a11, u11, F11⟩ := F11
  obtain ⟨f12, a12, u12, F12⟩ := F12
  obtain ⟨f13, a13, u13, F13⟩ := F13
  obtain ⟨f14, a14, u14, F14⟩ := F14
  obtain ⟨f15, a15, u15, F15⟩ := F15
  obtain ⟨f16, a16, u16, F16⟩ := F16
  obtain ⟨f17, a17, u17, F17⟩ := F17
  have e := hfa.symm.trans (PySem.W.mg_of X G a17)
  cases e
  let A : Nat → Addr := fun i => [f0, f1, f2, f3, f4, f5, f6, f7, f8, f9, f10, f11, f12, f13, f14, f15, f16, fa].getD i 0
  let U : Nat → FuncData := fun i => [u0, u1, u2, u3, u4, u5, u6, u7, u8, u9, u10, u11, u12, u13, u14, u15, u16, u17].getD i u17
  let cA : Nat → Addr := fun i => [c0, c1].getD i 0
  have T : Txt cA K mg A := {
    hK := trivial,
    g_write_integer := PySem.W.mg_of X G a0,
    g_read_integer := PySem.W.mg_of X G a1,
    g_write_data := PySem.W.mg_of X G a2,
    g_plain_text := PySem.W.mg_of X G a3,
    g_read_plain := PySem.W.mg_of X G a4,
    g_read_data := PySem.W.mg_of X G a5,
    g__law_start := PySem.W.mg_of X G a6,
    g__law_draw := PySem.W.mg_of X G a7,
    g__law_one_of := PySem.W.mg_of X G a8,
    g__law_is_int := PySem.W.mg_of X G a9,
    g__law_same := PySem.W.mg_of X G a10,
    g__law_figures_of := PySem.W.mg_of X G a11,
    g__law_long_number := PySem.W.mg_of X G a12,
    g__law_some_datum := PySem.W.mg_of X G a13,
    g__law_datum_text := PySem.W.mg_of X G a14,
    g__law_nested := PySem.W.mg_of X G a15,
    g__law_refuses_text := PySem.W.mg_of X G a16,
    n_abs := PySem.W.mg_none_of X G n_abs,
    n_all := PySem.W.mg_none_of X G n_all,
    n_bool := PySem.W.mg_none_of X G n_bool,
    n_divmod := PySem.W.mg_none_of X G n_divmod,
    n_int := PySem.W.mg_none_of X G n_int,
    n_isinstance := PySem.W.mg_none_of X G n_isinstance,
    n_len := PySem.W.mg_none_of X G n_len,
    n_list := PySem.W.mg_none_of X G n_list,
    n_ord := PySem.W.mg_none_of X G n_ord,
    n_range := PySem.W.mg_none_of X G n_range,
    n_str := PySem.W.mg_none_of X G n_str,
    n_tuple := PySem.W.mg_none_of X G n_tuple,
    c_BASE := k_BASE,
    c_DEPTH := k_DEPTH,
    c_DIGITS := k_DIGITS,
    c_SIGNS := k_SIGNS,
    x_AllgoonError := PySem.W.mg_of X G x0,
    x_BadText := PySem.W.mg_of X G x1,
    e_AllgoonError := ⟨q0, kp0, sb0, ty0⟩,
    e_BadText := ⟨q1, kp1, sb1, ty1⟩,
    s_BadText := fun j b h => by
      match j, h with
      | 0, h => cases h; exact PySem.W.exm_ref sb1 hd1 ty1 s_0_1
      | 1, h => cases h; exact PySem.W.exm_ref sb1 hd1 ty1 s_1_1
      | j + 2, h => simp [sub_BadText] at h,
    i_AllgoonError := fun j b h => by
      match j, h with
      | 0, h => cases h; exact ⟨⟨ga0, gt0, sb0, hd0, ca0, gn, tk, mo0⟩, kit_ref (fun e => rfl) hd0 ty0 s_0_0⟩
      | 1, h => cases h; exact ⟨⟨ga1, gt1, sb1, hd1, ca1, gn, tk, mo1⟩, kit_ref (fun e => rfl) hd0 ty0 s_1_0⟩
      | j + 2, h => simp [is_AllgoonError] at h }
  refine ⟨u17, bind1 F17 fun _ _ _ _ _ _ _ => rfl, fun base _ _ => law_ok (C := ⟨K, cA⟩) (n := 60) (f := 17) keeps (all_ok (ent := ent A U) (tab := tab) ?_ 60 17 _ rfl) rfl⟩
  intro f e he
  match f, he with
  | 0, he => cases he; exact ⟨d_write_integer, rfl, ⟨F0, sc0, rfl, rfl, F0.binds (ps := P0) (fun _ _ _ _ _ _ us hl => match us, hl with | [_], _ => rfl), bd0 T⟩⟩
  | 1, he => cases he; exact ⟨d_read_integer, rfl, ⟨F1, sc1, rfl, rfl, F1.binds (ps := P1) (fun _ _ _ _ _ _ us hl => match us, hl with | [_], _ => rfl), bd1 T⟩⟩
  | 2, he => cases he; exact ⟨d_write_data, rfl, ⟨F2, sc2, rfl, rfl, F2.binds (ps := P2) (fun _ _ _ _ _ _ us hl => match us, hl with | [_], _ => rfl), bd2 T⟩⟩
  | 3, he => cases he; exact ⟨d_plain_text, rfl, ⟨F3, sc3, rfl, rfl, F3.binds (ps := P3) (fun _ _ _ _ _ _ us hl => match us, hl with | [_], _ => rfl), bd3 T⟩⟩
  | 4, he => cases he; exact ⟨d_read_plain, rfl, ⟨F4, sc4, rfl, rfl, F4.binds (ps := P4) (fun _ _ _ _ _ _ us hl => match us, hl with | [_, _], _ => rfl), bd4 T⟩⟩
  | 5, he => cases he; exact ⟨d_read_data, rfl, ⟨F5, sc5, rfl, rfl, F5.binds (ps := P5) (fun _ _ _ _ _ _ us hl => match us, hl with | [_], _ => rfl), bd5 T⟩⟩
  | 6, he => cases he; exact ⟨d__law_start, rfl, ⟨F6, sc6, rfl, rfl, F6.binds (ps := P6) (fun _ _ _ _ _ _ us hl => match us, hl with | [_], _ => rfl), bd6 T⟩⟩
  | 7, he => cases he; exact ⟨d__law_draw, rfl, ⟨F7, sc7, rfl, rfl, F7.binds (ps := P7) (fun _ _ _ _ _ _ us hl => match us, hl with | [_, _], _ => rfl), bd7 T⟩⟩
  | 8, he => cases he; exact ⟨d__law_one_of, rfl, ⟨F8, sc8, rfl, rfl, F8.binds (ps := P8) (fun _ _ _ _ _ _ us hl => match us, hl with | [_, _], _ => rfl), bd8 T⟩⟩
  | 9, he => cases he; exact ⟨d__law_is_int, rfl, ⟨F9, sc9, rfl, rfl, F9.binds (ps := P9) (fun _ _ _ _ _ _ us hl => match us, hl with | [_], _ => rfl), bd9 T⟩⟩
  | 10, he => cases he; exact ⟨d__law_same, rfl, ⟨F10, sc10, rfl, rfl, F10.binds (ps := P10) (fun _ _ _ _ _ _ us hl => match us, hl with | [_, _], _ => rfl), bd10 T⟩⟩
  | 11, he => cases he; exact ⟨d__law_figures_of, rfl, ⟨F11, sc11, rfl, rfl, F11.binds (ps := P11) (fun _ _ _ _ _ _ us hl => match us, hl with | [_], _ => rfl), bd11 T⟩⟩
  | 12, he => cases he; exact ⟨d__law_long_number, rfl, ⟨F12, sc12, rfl, rfl, F12.binds (ps := P12) (fun _ _ _ _ _ _ us hl => match us, hl with | [_, _], _ => rfl), bd12 T⟩⟩
  | 13, he => cases he; exact ⟨d__law_some_datum, rfl, ⟨F13, sc13, rfl, rfl, F13.binds (ps := P13) (fun _ _ _ _ _ _ us hl => match us, hl with | [_, _], _ => rfl), bd13 T⟩⟩
  | 14, he => cases he; exact ⟨d__law_datum_text, rfl, ⟨F14, sc14, rfl, rfl, F14.binds (ps := P14) (fun _ _ _ _ _ _ us hl => match us, hl with | [_], _ => rfl), bd14 T⟩⟩
  | 15, he => cases he; exact ⟨d__law_nested, rfl, ⟨F15, sc15, rfl, rfl, F15.binds (ps := P15) (fun _ _ _ _ _ _ us hl => match us, hl with | [_, _], _ => rfl), bd15 T⟩⟩
  | 16, he => cases he; exact ⟨d__law_refuses_text, rfl, ⟨F16, sc16, rfl, rfl, F16.binds (ps := P16) (fun _ _ _ _ _ _ us hl => match us, hl with | [_, _], _ => rfl), bd16 T⟩⟩
  | 17, he => cases he; exact ⟨d_law, rfl, ⟨F17, sc17, rfl, rfl, F17.binds (ps := P17) (fun _ _ _ _ _ _ us hl => match us, hl with | [_], _ => rfl), bd17 T⟩⟩
  | n + 18, he => cases he
end K00
open PySem PySem.W PyProof.Rows
set_option maxRecDepth 100000 in
set_option maxHeartbeats 0 in
theorem PySem.Challenge.cw_allgoon_k00_integers_and_data_holds : PySem.Challenge.rw_allgoon_k00_integers_and_data.Holds := by
  w_on; o_law; k_head; (case hw => w_witness2)
  k_fill
  refine Mi.walk_mi (k := 62) (x := "script") rfl rfl ⟨rfl, by decide, by decide⟩ (fun w h Y => PySem.W.kIn_of Y) ?_
  intro w mg fa h KX G XP hmg
  refine' K00.all_mk KX G hmg ?F0 ?F1 ?F2 ?F3 ?F4 ?F5 ?F6 ?F7 ?F8 ?F9 ?F10 ?F11 ?F12 ?F13 ?F14 ?F15 ?F16 ?F17 ?n_abs ?n_all ?n_bool ?n_divmod ?n_int ?n_isinstance ?n_len ?n_list ?n_ord ?n_range ?n_str ?n_tuple ?k_BASE ?k_DEPTH ?k_DIGITS ?k_SIGNS ?x0 ?q0 ?kp0 ?sb0 ?ty0 ?hd0 ?ga0 ?gt0 ?ca0 ?mo0 ?x1 ?q1 ?kp1 ?sb1 ?ty1 ?hd1 ?ga1 ?gt1 ?ca1 ?mo1 ?gn ?tk ?s_0_0 ?s_1_0 ?s_0_1 ?s_1_1
  (case F0 => refine' Mi.fun_at ?a ?l ?c ?k; (case a => k_is); (case l => k_is); (case c => k_is); (case k => k_is))
  (case F1 => refine' Mi.fun_at ?a ?l ?c ?k; (case a => k_is); (case l => k_is); (case c => k_is); (case k => k_is))
  (case F2 => refine' Mi.fun_at ?a ?l ?c ?k; (case a => k_is); (case l => k_is); (case c => k_is); (case k => k_is))
  (case F3 => refine' Mi.fun_at ?a ?l ?c ?k; (case a => k_is); (case l => k_is); (case c => k_is); (case k => k_is))
  (case F4 => refine' Mi.fun_at ?a ?l ?c ?k; (case a => k_is); (case l => k_is); (case c => k_is); (case k => k_is))
  (case F5 => refine' Mi.fun_at ?a ?l ?c ?k; (case a => k_is); (case l => k_is); (case c => k_is); (case k => k_is))
  (case F6 => refine' Mi.fun_at ?a ?l ?c ?k; (case a => k_is); (case l => k_is); (case c => k_is); (case k => k_is))
  (case F7 => refine' Mi.fun_at ?a ?l ?c ?k; (case a => k_is); (case l => k_is); (case c => k_is); (case k => k_is))
  (case F8 => refine' Mi.fun_at ?a ?l ?c ?k; (case a => k_is); (case l => k_is); (case c => k_is); (case k => k_is))
  (case F9 => refine' Mi.fun_at ?a ?l ?c ?k; (case a => k_is); (case l => k_is); (case c => k_is); (case k => k_is))
  (case F10 => refine' Mi.fun_at ?a ?l ?c ?k; (case a => k_is); (case l => k_is); (case c => k_is); (case k => k_is))
  (case F11 => refine' Mi.fun_at ?a ?l ?c ?k; (case a => k_is); (case l => k_is); (case c => k_is); (case k => k_is))
  (case F12 => refine' Mi.fun_at ?a ?l ?c ?k; (case a => k_is); (case l => k_is); (case c => k_is); (case k => k_is))
  (case F13 => refine' Mi.fun_at ?a ?l ?c ?k; (case a => k_is); (case l => k_is); (case c => k_is); (case k => k_is))
  (case F14 => refine' Mi.fun_at ?a ?l ?c ?k; (case a => k_is); (case l => k_is); (case c => k_is); (case k => k_is))
  (case F15 => refine' Mi.fun_at ?a ?l ?c ?k; (case a => k_is); (case l => k_is); (case c => k_is); (case k => k_is))
  (case F16 => refine' Mi.fun_at ?a ?l ?c ?k; (case a => k_is); (case l => k_is); (case c => k_is); (case k => k_is))
  (case F17 => refine' Mi.fun_at ?a ?l ?c ?k; (case a => k_is); (case l => k_is); (case c => k_is); (case k => k_is))
  (case n_abs => k_is)
  (case n_all => k_is)
  (case n_bool => k_is)
  (case n_divmod => k_is)
  (case n_int => k_is)
  (case n_isinstance => k_is)
  (case n_len => k_is)
  (case n_list => k_is)
  (case n_ord => k_is)
  (case n_range => k_is)
  (case n_str => k_is)
  (case n_tuple => k_is)
  (case k_BASE => exact Mi.const_loose XP (by simp))
  (case k_DEPTH => refine' Mi.const_int KX G ?a; (case a => k_is))
  (case k_DIGITS => refine' Mi.const_str KX G ?a ?e; (case a => k_is); (case e => rfl))
  (case k_SIGNS => refine' Mi.const_str KX G ?a ?e; (case a => k_is); (case e => rfl))
  (case x0 => k_is)
  (case q0 => k_exc)
  (case kp0 => k_is)
  (case sb0 => k_is)
  (case ty0 => k_is)
  (case hd0 => k_is)
  (case ga0 => k_is)
  (case gt0 => k_is)
  (case ca0 => k_is)
  (case mo0 => k_is)
  (case x1 => k_is)
  (case q1 => k_exc)
  (case kp1 => k_is)
  (case sb1 => k_is)
  (case ty1 => k_is)
  (case hd1 => k_is)
  (case ga1 => k_is)
  (case gt1 => k_is)
  (case ca1 => k_is)
  (case mo1 => k_is)
  (case gn => k_is)
  (case tk => k_is)
  (case s_0_0 => first | k_is | rfl)
  (case s_1_0 => first | k_is | rfl)
  (case s_0_1 => first | k_is | rfl)
  (case s_1_1 => first | k_is | rfl)
