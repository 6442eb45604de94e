import PyProof.Rows.All
import Wide.All
import OpenK.AllK
import Wide.FinOn
import KE.KStateDown
import Lean
import HandS.ForMost
import HandS.Exc
import HandS.Defaults
import HandS.Head0
import HandS.Head1
import HandS.Head2
import HandS.HeadEnd
import HandS.HeadHook1
import HandS.HeadHook2
import HandS.Walk
import HandS.Flow
import HandS.Wide
import HandS.TupAny
import HandS.TupMul
import HandS.IsInst
import HandS.Rev
import HandS.Zip
import HandS.Conv
import HandS.More
import HandS.Style
import KE.GoesMore
import HandS.ExcOwn
import HandS.WordsExc
import HandS.SetFor
import HandS.Set
import PySem.Challenge.RW_pilesfit_k69_whole_weights
set_option Elab.async false
set_option linter.all false
set_option maxRecDepth 100000
/-! MnCore: a small executable semantics for the part of Python that the program uses. Plain Lean. -/
set_option linter.all false
namespace Mn

/-- data without references -/
inductive D where
  | non | bl (b : Bool) | int (i : Int) | str (s : List Nat) | tup (xs : List D)
/-- values that stand in slots and objects -/
inductive W where
  | d (x : D) | ref (i : Nat) | tup (xs : List W) | scr (ns : List Int)
/-- objects; a dict's flag: it is being walked -/
inductive O where
  | lst (xs : List W) | dct (fz : Bool) (kvs : List (D × W)) | ins (c : Nat) (fs : List (Nat × W))
/-- results of expressions: a value, a new object that nobody holds, the object that a slot owns -/
inductive R where
  | w (x : W) | new (o : O) | slot (i : Nat)
inductive E0 where
  | un | w (x : W) | own (o : O)
structure S where
  ρ : List E0
  h : List O
inductive Res (α : Type) where
  | ok (a : α) (s : S) | exc (c : Nat) (xs : List (Nat × D)) (s : S) | bad
inductive Out where
  | nx (s : S) | rt (r : R) (s : S) | bk (s : S) | ct (s : S) | exc (c : Nat) (xs : List (Nat × D)) (s : S) | bad
inductive Res2 where
  | ok (r : R) (h : List O) | exc (c : Nat) (xs : List (Nat × D)) (h : List O) | bad

/-! ### sameness -/
mutual
def D.same : D → D → Bool
  | .non, .non => true
  | .bl a, .bl b => a == b
  | .int a, .int b => a == b
  | .str a, .str b => a == b
  | .tup a, .tup b => D.sames a b
  | _, _ => false
def D.sames : List D → List D → Bool
  | [], [] => true
  | x :: xs, y :: ys => D.same x y && D.sames xs ys
  | _, _ => false
end
mutual
theorem D.same_refl : ∀ x : D, D.same x x = true
  | .non => rfl
  | .bl _ => by simp [D.same]
  | .int _ => by simp [D.same]
  | .str _ => by simp [D.same]
  | .tup xs => by simp only [D.same]; exact D.sames_refl xs
theorem D.sames_refl : ∀ xs : List D, D.sames xs xs = true
  | [] => rfl
  | x :: xs => by simp only [D.sames, D.same_refl x, D.sames_refl xs, Bool.and_self]
end
mutual
theorem D.same_eq : ∀ {x y : D}, D.same x y = true → x = y
  | .non, y, h => by cases y <;> simp [D.same] at h ⊢
  | .bl _, y, h => by cases y <;> simp [D.same] at h ⊢ <;> exact h
  | .int _, y, h => by cases y <;> simp [D.same] at h ⊢ <;> exact h
  | .str _, y, h => by cases y <;> simp [D.same] at h ⊢ <;> exact h
  | .tup xs, y, h => by
    cases y <;> simp only [D.same, Bool.false_eq_true] at h
    rw [D.sames_eq h]
theorem D.sames_eq : ∀ {xs ys : List D}, D.sames xs ys = true → xs = ys
  | [], ys, h => by cases ys <;> simp [D.sames] at h ⊢
  | x :: xs, ys, h => by
    cases ys with
    | nil => simp [D.sames] at h
    | cons y ys =>
      simp only [D.sames, Bool.and_eq_true] at h
      rw [D.same_eq h.1, D.sames_eq h.2]
end
instance : DecidableEq D := fun x y => if h : D.same x y = true then .isTrue (D.same_eq h) else .isFalse fun e => h (e ▸ D.same_refl x)
mutual
def W.same : W → W → Bool
  | .d a, .d b => D.same a b
  | .ref a, .ref b => a == b
  | .scr a, .scr b => a == b
  | .tup a, .tup b => W.sames a b
  | _, _ => false
def W.sames : List W → List W → Bool
  | [], [] => true
  | x :: xs, y :: ys => W.same x y && W.sames xs ys
  | _, _ => false
end
mutual
theorem W.same_refl : ∀ x : W, W.same x x = true
  | .d x => D.same_refl x
  | .ref _ => by simp [W.same]
  | .scr _ => by simp [W.same]
  | .tup xs => by simp only [W.same]; exact W.sames_refl xs
theorem W.sames_refl : ∀ xs : List W, W.sames xs xs = true
  | [] => rfl
  | x :: xs => by simp only [W.sames, W.same_refl x, W.sames_refl xs, Bool.and_self]
end
mutual
theorem W.same_eq : ∀ {x y : W}, W.same x y = true → x = y
  | .d _, y, h => by cases y <;> simp only [W.same, Bool.false_eq_true] at h; rw [D.same_eq h]
  | .ref _, y, h => by cases y <;> simp [W.same] at h ⊢ <;> exact h
  | .scr _, y, h => by cases y <;> simp [W.same] at h ⊢ <;> exact h
  | .tup xs, y, h => by
    cases y <;> simp only [W.same, Bool.false_eq_true] at h
    rw [W.sames_eq h]
theorem W.sames_eq : ∀ {xs ys : List W}, W.sames xs ys = true → xs = ys
  | [], ys, h => by cases ys <;> simp [W.sames] at h ⊢
  | x :: xs, ys, h => by
    cases ys with
    | nil => simp [W.sames] at h
    | cons y ys =>
      simp only [W.sames, Bool.and_eq_true] at h
      rw [W.same_eq h.1, W.sames_eq h.2]
end
instance : DecidableEq W := fun x y => if h : W.same x y = true then .isTrue (W.same_eq h) else .isFalse fun e => h (e ▸ W.same_refl x)


def O.dec : (a b : O) → Decidable (a = b)
  | .lst x, .lst y => if h : x = y then .isTrue (by rw [h]) else .isFalse fun e => h (by injection e)
  | .dct f x, .dct g y => if h : f = g ∧ x = y then .isTrue (by rw [h.1, h.2]) else .isFalse fun e => h (by injection e with e1 e2; exact ⟨e1, e2⟩)
  | .ins c x, .ins d y => if h : c = d ∧ x = y then .isTrue (by rw [h.1, h.2]) else .isFalse fun e => h (by injection e with e1 e2; exact ⟨e1, e2⟩)
  | .lst _, .dct _ _ => .isFalse fun e => nomatch e
  | .lst _, .ins _ _ => .isFalse fun e => nomatch e
  | .dct _ _, .lst _ => .isFalse fun e => nomatch e
  | .dct _ _, .ins _ _ => .isFalse fun e => nomatch e
  | .ins _ _, .lst _ => .isFalse fun e => nomatch e
  | .ins _ _, .dct _ _ => .isFalse fun e => nomatch e
instance : DecidableEq O := O.dec

abbrev Ex := S → Res R
abbrev Tm := S → Res Bool
abbrev As := S → Res (List R)
abbrev St := S → Out
/-- the longest list, text -/
abbrev LN : Nat := 16777216

def Res.bind {α β : Type} (x : Res α) (k : α → S → Res β) : Res β := match x with
  | .ok a s => k a s
  | .exc c xs s => .exc c xs s
  | .bad => .bad
@[simp] theorem Res.bind_ok {α β : Type} (a : α) (s : S) (k : α → S → Res β) : (Res.ok a s).bind k = k a s := rfl

/-! ### tuples, objects -/
def alld : List W → Option (List D)
  | [] => some []
  | .d x :: r => match alld r with
    | some xs => some (x :: xs)
    | none => none
  | .ref _ :: _ => none
  | .tup _ :: _ => none
  | .scr _ :: _ => none
@[simp] theorem alld_map : ∀ xs : List D, alld (xs.map W.d) = some xs
  | [] => rfl
  | x :: xs => by simp only [List.map_cons, alld, alld_map xs]
theorem alld_some : ∀ {ws : List W} {xs : List D}, alld ws = some xs → ws = xs.map W.d
  | [], xs, h => by simp [alld] at h; subst h; rfl
  | .d x :: r, xs, h => by
    simp only [alld] at h
    cases e : alld r with
    | none => rw [e] at h; cases h
    | some ys => rw [e] at h; injection h with h; rw [← h, alld_some e]; rfl
  | .ref _ :: _, _, h => by simp [alld] at h
  | .tup _ :: _, _, h => by simp [alld] at h
  | .scr _ :: _, _, h => by simp [alld] at h
def mkTup (ws : List W) : W := match alld ws with
  | some xs => .d (.tup xs)
  | none => .tup ws
@[simp] theorem mkTup_map (xs : List D) : mkTup (xs.map W.d) = .d (.tup xs) := by simp [mkTup]
def W.items : W → Option (List W)
  | .d (.tup xs) => some (xs.map W.d)
  | .tup ws => some ws
  | _ => none

/-- where an object stands: at a heap's place, in a slot -/
inductive Src where
  | hp (j : Nat) | sl (i : Nat)
  deriving DecidableEq
def locR (s : S) : R → Option Src
  | .w (.ref j) => some (.hp j)
  | .slot i => match s.ρ[i]? with
    | some (.own _) => some (.sl i)
    | some (.w (.ref j)) => some (.hp j)
    | _ => none
  | _ => none
def getO (s : S) : Src → Option O
  | .hp j => s.h[j]?
  | .sl i => match s.ρ[i]? with
    | some (.own o) => some o
    | _ => none
def setO (s : S) (x : Src) (o : O) : S := match x with
  | .hp j => ⟨s.ρ, s.h.set j o⟩
  | .sl i => ⟨s.ρ.set i (.own o), s.h⟩
def objR (s : S) : R → Option O
  | .new o => some o
  | r => match locR s r with
    | some x => getO s x
    | none => none
/-- a list's (true), a tuple's (false) items -/
def seqR (s : S) : R → Option (Bool × List W)
  | .w (.d (.tup xs)) => some (false, xs.map W.d)
  | .w (.tup ws) => some (false, ws)
  | r => match objR s r with
    | some (.lst ws) => some (true, ws)
    | _ => none
/-- a value that may be kept: what nobody holds goes to the heap, what a slot owns too -/
def boxR (r : R) (s : S) : Option (W × S) := match r with
  | .w x => some (x, s)
  | .new o => some (.ref s.h.length, ⟨s.ρ, s.h ++ [o]⟩)
  | .slot i => match s.ρ[i]? with
    | some (.own o) => some (.ref s.h.length, ⟨s.ρ.set i (.w (.ref s.h.length)), s.h ++ [o]⟩)
    | some (.w x) => some (x, s)
    | _ => none
def boxes : List R → S → Option (List W × S)
  | [], s => some ([], s)
  | r :: rs, s => match boxR r s with
    | some (x, s1) => match boxes rs s1 with
      | some (xs, s2) => some (x :: xs, s2)
      | none => none
    | none => none
/-- a slot is given a value -/
def asg (i : Nat) (r : R) (s : S) : Option S := match r with
  | .new o => if i < s.ρ.length then some ⟨s.ρ.set i (.own o), s.h⟩ else none
  | r => match boxR r s with
    | some (x, s1) => if i < s1.ρ.length then some ⟨s1.ρ.set i (.w x), s1.h⟩ else none
    | none => none

/-! ### expressions -/
def kE (x : D) : Ex := fun s => .ok (.w (.d x)) s
def vE (i : Nat) : Ex := fun s => match s.ρ[i]? with
  | some (.w x) => .ok (.w x) s
  | some (.own _) => .ok (.slot i) s
  | _ => .bad
def asN : As := fun s => .ok [] s
def asC (a : Ex) (r : As) : As := fun s => (a s).bind fun x s1 => (r s1).bind fun xs s2 => .ok (x :: xs) s2
def tupE (as : As) : Ex := fun s => (as s).bind fun rs s1 => match boxes rs s1 with
  | some (ws, s2) => if ws.length ≤ LN then .ok (.w (mkTup ws)) s2 else .bad
  | none => .bad
def lstE (as : As) : Ex := fun s => (as s).bind fun rs s1 => match boxes rs s1 with
  | some (ws, s2) => if ws.length ≤ LN then .ok (.new (.lst ws)) s2 else .bad
  | none => .bad
def dctE : Ex := fun s => .ok (.new (.dct false [])) s
def op1 (f : S → R → Option R) (a : Ex) : Ex := fun s => (a s).bind fun x s1 => match f s1 x with
  | some r => .ok r s1
  | none => .bad
def op2 (f : S → R → R → Option R) (a b : Ex) : Ex := fun s => (a s).bind fun x s1 => (b s1).bind fun y s2 => match f s2 x y with
  | some r => .ok r s2
  | none => .bad
abbrev iR (i : Int) : R := .w (.d (.int i))
abbrev bR (b : Bool) : R := .w (.d (.bl b))

/-- sums -/
def addV (s : S) : R → R → Option R
  | .w (.d (.int i)), .w (.d (.int j)) => some (iR (i + j))
  | .w (.d (.str a)), .w (.d (.str b)) => if a.length + b.length ≤ LN then some (.w (.d (.str (a ++ b)))) else none
  | .w (.d (.tup a)), .w (.d (.tup b)) => if a.length + b.length ≤ LN then some (.w (.d (.tup (a ++ b)))) else none
  | x, y => match seqR s x, seqR s y with
    | some (false, a), some (false, b) => if a.length + b.length ≤ LN then some (.w (mkTup (a ++ b))) else none
    | some (true, a), some (true, b) => if a.length + b.length ≤ LN then some (.new (.lst (a ++ b))) else none
    | _, _ => none
def subV (_ : S) : R → R → Option R
  | .w (.d (.int i)), .w (.d (.int j)) => some (iR (i - j))
  | _, _ => none
def mulOk (i j : Int) : Bool := decide (i.natAbs < 2 ^ 64) || decide (j.natAbs < 2 ^ 64) || decide (i.natAbs.log2 + j.natAbs.log2 < 1000000)
def mulV (s : S) : R → R → Option R
  | .w (.d (.int i)), .w (.d (.int j)) => if mulOk i j then some (iR (i * j)) else none
  | .w (.d (.tup a)), .w (.d (.int k)) => if -1000 ≤ k ∧ k ≤ 1000 ∧ a.length ≤ 1000 then some (.w (.d (.tup (List.replicate k.toNat a).flatten))) else none
  | x, .w (.d (.int k)) => match objR s x with
    | some (.lst ws) => if -(2 ^ 63) ≤ k ∧ k < 2 ^ 63 ∧ ws.length * k.toNat ≤ LN then some (.new (.lst (List.replicate k.toNat ws).flatten)) else none
    | _ => none
  | _, _ => none
def divV (_ : S) : R → R → Option R
  | .w (.d (.int i)), .w (.d (.int j)) => if 0 < j ∧ j.natAbs.log2 < 9000 then some (iR (i / j)) else none
  | _, _ => none
def modV (_ : S) : R → R → Option R
  | .w (.d (.int i)), .w (.d (.int j)) => if 0 < j then some (iR (i % j)) else none
  | _, _ => none
def powV (_ : S) : R → R → Option R
  | .w (.d (.int i)), .w (.d (.int j)) => if 0 ≤ j ∧ j ≤ 1000000 ∧ i.natAbs < 2 ^ 64 then some (iR (i ^ j.toNat)) else none
  | _, _ => none
def shlV (_ : S) : R → R → Option R
  | .w (.d (.int i)), .w (.d (.int j)) => if 0 ≤ j ∧ j ≤ 1000000 ∧ i.natAbs < 2 ^ 64 then some (iR (i * 2 ^ j.toNat)) else none
  | _, _ => none
def negV (_ : S) : R → Option R
  | .w (.d (.int i)) => some (iR (-i))
  | _ => none

/-! ### comparisons -/
mutual
/-- == of data -/
def D.eqv : D → D → Bool
  | .non, .non => true
  | .bl a, .bl b => a == b
  | .bl a, .int j => (if a then 1 else 0) == j
  | .int i, .bl b => i == (if b then 1 else 0)
  | .int i, .int j => i == j
  | .str a, .str b => a == b
  | .tup a, .tup b => D.eqvs a b
  | _, _ => false
def D.eqvs : List D → List D → Bool
  | [], [] => true
  | x :: xs, y :: ys => D.eqv x y && D.eqvs xs ys
  | _, _ => false
end
mutual
def D.depth : D → Nat
  | .tup xs => D.depths xs + 1
  | _ => 0
def D.depths : List D → Nat
  | [] => 0
  | x :: xs => max x.depth (D.depths xs)
end
/-- what == looks at: a list's flag, the data -/
def datR (s : S) : R → Option (Bool × D)
  | .w (.d x) => some (false, x)
  | r => match objR s r with
    | some (.lst ws) => match alld ws with
      | some xs => some (true, .tup xs)
      | none => none
    | _ => none
def eqB (a b : Bool × D) : Bool := (a.1 == b.1) && D.eqv a.2 b.2
def eqV (s : S) (x y : R) : Option R := match datR s x, datR s y with
  | some a, some b => if min a.2.depth b.2.depth ≤ 64 then some (bR (eqB a b)) else none
  | _, _ => none
def neV (s : S) (x y : R) : Option R := match datR s x, datR s y with
  | some a, some b => if min a.2.depth b.2.depth ≤ 64 then some (bR (!eqB a b)) else none
  | _, _ => none
def cmpI (p : Int → Int → Bool) (_ : S) : R → R → Option R
  | .w (.d (.int i)), .w (.d (.int j)) => some (bR (p i j))
  | _, _ => none
abbrev ltV := cmpI fun i j => decide (i < j)
abbrev leV := cmpI fun i j => decide (i ≤ j)
abbrev gtV := cmpI fun i j => decide (j < i)
abbrev geV := cmpI fun i j => decide (j ≤ i)
def isNon : R → Bool
  | .w (.d .non) => true
  | _ => false
def isV (_ : S) (x y : R) : Option R := if isNon y then some (bR (isNon x)) else none
def isntV (_ : S) (x y : R) : Option R := if isNon y then some (bR (!isNon x)) else none
def D.flat : D → Bool
  | .tup _ => false
  | _ => true
def D.isKey : D → Bool
  | .int _ => true
  | .str _ => true
  | _ => false
def inB (x : D) (ys : List D) : Bool := ys.any fun y => D.eqv y x
/-- x in a list or tuple of flat things, a sign in a text -/
def inSeq (x : D) (ws : List W) : Option Bool := match alld ws with
  | some ys => if x.flat && ys.all D.flat then some (inB x ys) else none
  | none => none
def signIn : D → R → Option Bool
  | .str [c], .w (.d (.str t)) => some (decide (c ∈ t))
  | _, _ => none
def inRest (s : S) (x : D) (y : R) : Option Bool := match seqR s y with
  | some p => inSeq x p.2
  | none => signIn x y
def inD (s : S) (x : D) (y : R) : Option Bool := match objR s y with
  | some (.dct _ kvs) => if x.isKey then some (kvs.any fun q => decide (q.1 = x)) else none
  | _ => inRest s x y
def inV (neg : Bool) (s : S) (x y : R) : Option R := match x with
  | .w (.d x) => (inD s x y).map fun b => bR (if neg then !b else b)
  | _ => none
/-- truth -/
def tru (s : S) : R → Option Bool
  | .w (.d .non) => some false
  | .w (.d (.bl b)) => some b
  | .w (.d (.int i)) => some (i != 0)
  | .w (.d (.str a)) => if a.length ≤ LN then some (!a.isEmpty) else none
  | .w (.d (.tup a)) => some (!a.isEmpty)
  | .w (.tup a) => some (!a.isEmpty)
  | r => match objR s r with
    | some (.lst ws) => some (!ws.isEmpty)
    | some (.dct false kvs) => some (!kvs.isEmpty)
    | _ => none
def notV (s : S) (x : R) : Option R := (tru s x).map fun b => bR (!b)
def andE (a b : Ex) : Ex := fun s => (a s).bind fun x s1 => match tru s1 x with
  | some true => b s1
  | some false => .ok x s1
  | none => .bad
def orE (a b : Ex) : Ex := fun s => (a s).bind fun x s1 => match tru s1 x with
  | some true => .ok x s1
  | some false => b s1
  | none => .bad
def tst (a : Ex) : Tm := fun s => (a s).bind fun x s1 => match tru s1 x with
  | some b => .ok b s1
  | none => .bad
def andT (a b : Tm) : Tm := fun s => (a s).bind fun x s1 => if x then b s1 else .ok false s1
def orT (a b : Tm) : Tm := fun s => (a s).bind fun x s1 => if x then .ok true s1 else b s1
def notT (a : Tm) : Tm := fun s => (a s).bind fun x s1 => .ok (!x) s1
def iteE (t : Tm) (a b : Ex) : Ex := fun s => (t s).bind fun x s1 => if x then a s1 else b s1
/-- a < b < c -/
def chE (f g : S → R → R → Option R) (a b c : Ex) : Ex := fun s => (a s).bind fun x s1 => (b s1).bind fun y s2 => match f s2 x y with
  | some (.w (.d (.bl true))) => (c s2).bind fun z s3 => match g s3 y z with
    | some r => .ok r s3
    | none => .bad
  | some (.w (.d (.bl false))) => .ok (bR false) s2
  | _ => .bad

/-! ### places, slices -/
def ixN (n : Nat) (i : Int) : Option Nat := if 0 ≤ i then (if i < n then some i.toNat else none) else if -(n : Int) ≤ i then some (i + n).toNat else none
def atI {α : Type} (xs : List α) (i : Int) : Option α := match ixN xs.length i with
  | some j => xs[j]?
  | none => none
def look (kvs : List (D × W)) (k : D) : Option W := match kvs with
  | [] => none
  | (k', v) :: r => if k' = k then some v else look r k
def ixSeq (s : S) (x : R) (i : Int) : Option R := match x with
  | .w (.d (.tup xs)) => (atI xs i).map fun x => .w (.d x)
  | .w (.d (.str a)) => if a.length ≤ LN then (atI a i).map fun c => .w (.d (.str [c])) else none
  | .w (.scr ns) => (atI ns i).map iR
  | x => match seqR s x with
    | some p => (atI p.2 i).map R.w
    | none => none
def ixV (s : S) (x y : R) : Option R := match y with
  | .w (.d k) => match objR s x with
    | some (.dct _ kvs) => if k.isKey then (look kvs k).map R.w else none
    | _ => match k with
      | .int i => ixSeq s x i
      | _ => none
  | _ => none
def sIx (n d : Nat) : Option Int → Nat
  | none => d
  | some v => if v < 0 then (v + (n : Int)).toNat else min v.toNat n
def cut {α : Type} (xs : List α) (lo hi : Option Int) : List α := (xs.drop (sIx xs.length 0 lo)).take (sIx xs.length xs.length hi - sIx xs.length 0 lo)
def slV (s : S) (x : R) (lo hi : Option Int) : Option R := match x with
  | .w (.d (.tup xs)) => some (.w (.d (.tup (cut xs lo hi))))
  | .w (.d (.str a)) => if a.length ≤ LN then some (.w (.d (.str (cut a lo hi)))) else none
  | .w (.scr ns) => some (.new (.lst ((cut ns lo hi).map fun i => .d (.int i))))
  | x => match objR s x with
    | some (.lst ws) => some (.new (.lst (cut ws lo hi)))
    | _ => none
def noO : S → Res (Option Int) := fun s => .ok none s
def someO (a : Ex) : S → Res (Option Int) := fun s => (a s).bind fun x s1 => match x with
  | .w (.d (.int i)) => .ok (some i) s1
  | _ => .bad
def slE (a : Ex) (lo hi : S → Res (Option Int)) : Ex := fun s => (a s).bind fun x s1 => (lo s1).bind fun l s2 => (hi s2).bind fun u s3 => match slV s3 x l u with
  | some r => .ok r s3
  | none => .bad

/-- the types that isinstance asks for -/
inductive Ty where
  | non | bool | int | str | tup | lst | dct
  deriving DecidableEq
def tyR (s : S) : R → Option Ty
  | .w (.d .non) => some .non
  | .w (.d (.bl _)) => some .bool
  | .w (.d (.int _)) => some .int
  | .w (.d (.str _)) => some .str
  | .w (.d (.tup _)) => some .tup
  | .w (.tup _) => some .tup
  | r => match objR s r with
    | some (.lst _) => some .lst
    | some (.dct _ _) => some .dct
    | _ => none
def isiB (t T : Ty) : Bool := decide (t = T) || (decide (t = .bool) && decide (T = .int))
def isiV (T : Ty) (s : S) (r : R) : Option R := (tyR s r).map fun t => bR (isiB t T)
/-! ### built-in calls -/
def lenV (s : S) : R → Option R
  | .w (.d (.str a)) => if a.length ≤ LN then some (iR a.length) else none
  | .w (.scr ns) => some (iR ns.length)
  | r => match seqR s r with
    | some (_, ws) => some (iR ws.length)
    | none => match objR s r with
      | some (.dct false kvs) => some (iR kvs.length)
      | _ => none
def intV (_ : S) : R → Option R
  | .w (.d (.int i)) => some (iR i)
  | .w (.d (.bl b)) => some (iR (if b then 1 else 0))
  | _ => none
def absV (_ : S) : R → Option R
  | .w (.d (.int i)) => some (iR (if i < 0 then -i else i))
  | _ => none
def tupleV (s : S) (r : R) : Option R := (seqR s r).map fun p => .w (mkTup p.2)
def listV (s : S) (r : R) : Option R := (seqR s r).map fun p => .new (.lst p.2)
def bls : List D → Option (List Bool)
  | [] => some []
  | .bl b :: r => (bls r).map (b :: ·)
  | _ :: _ => none
def intsD : List D → Option (List Int)
  | [] => some []
  | .int b :: r => (intsD r).map (b :: ·)
  | _ :: _ => none
@[simp] theorem bls_map : ∀ xs : List Bool, bls (xs.map D.bl) = some xs
  | [] => rfl
  | x :: xs => by simp [bls, bls_map xs]
@[simp] theorem intsD_map : ∀ xs : List Int, intsD (xs.map D.int) = some xs
  | [] => rfl
  | x :: xs => by simp [intsD, intsD_map xs]
def datL (s : S) (r : R) : Option (List D) := match seqR s r with
  | some (_, ws) => alld ws
  | none => none
def lstL (s : S) (r : R) : Option (List D) := match objR s r with
  | some (.lst ws) => alld ws
  | _ => none
def allV (s : S) (r : R) : Option R := ((lstL s r).bind bls).map fun bs => bR (bs.all id)
def anyV (s : S) (r : R) : Option R := ((lstL s r).bind bls).map fun bs => bR (bs.any id)
def sumV (s : S) (r : R) : Option R := ((lstL s r).bind intsD).map fun ns => iR ns.sum

/-- tuple(reversed(x)) of a list -/
def revV (s : S) (r : R) : Option R := match objR s r with
  | some (.lst ws) => some (.w (mkTup ws.reverse))
  | _ => none
/-- list(range(n)) -/
def lrngV (_ : S) : R → Option R
  | .w (.d (.int n)) => if -(2 ^ 62) ≤ n ∧ n ≤ 16777216 then some (.new (.lst ((List.range n.toNat).map fun i : Nat => W.d (.int (i : Int))))) else none
  | _ => none
/-- how many distinct -/
def dist : List Int → Nat
  | [] => 0
  | x :: xs => if x ∈ xs then dist xs else dist xs + 1
/-- len(set(x)) of a tuple of whole numbers -/
def lsetV (_ : S) : R → Option R
  | .w (.d (.tup xs)) => match intsD xs with
    | some ns => if ns.length + 1 < 4096 then some (iR (dist ns)) else none
    | none => none
  | _ => none
/-- str(i) -/
def strV (_ : S) : R → Option R
  | .w (.d (.int i)) => if i.natAbs.log2 < 1920 then some (.w (.d (.str ((toString i).toList.map Char.toNat)))) else none
  | _ => none
/-- x in a tuple of anything -/
def inDV (neg : Bool) (_ : S) : R → R → Option R
  | .w (.d x), .w (.d (.tup ys)) => if min (D.depths ys) x.depth ≤ 60 then some (bR (if neg then !inB x ys else inB x ys)) else none
  | _, _ => none

/-! ### statements -/
def seqS (a b : St) : St := fun s => match a s with
  | .nx s1 => b s1
  | o => o
def nxS : St := fun s => .nx s
def ofRes {α : Type} (x : Res α) (k : α → S → Out) : Out := match x with
  | .ok a s => k a s
  | .exc c xs s => .exc c xs s
  | .bad => .bad
@[simp] theorem ofRes_ok {α : Type} (a : α) (s : S) (k : α → S → Out) : ofRes (.ok a s) k = k a s := rfl
def ofOpt (x : Option S) : Out := match x with
  | some s => .nx s
  | none => .bad
@[simp] theorem ofOpt_some (s : S) : ofOpt (some s) = .nx s := rfl
def setS (i : Nat) (e : Ex) : St := fun s => ofRes (e s) fun r s1 => ofOpt (asg i r s1)
def exprS (e : Ex) : St := fun s => ofRes (e s) fun _ s1 => .nx s1
def retS (e : Ex) : St := fun s => ofRes (e s) fun r s1 => .rt r s1
def ifS (t : Tm) (a b : St) : St := fun s => ofRes (t s) fun x s1 => if x then a s1 else b s1
def brkS : St := fun s => .bk s
def ctS : St := fun s => .ct s
/-- targets -/
abbrev Tg := R → S → Option S
def tgV (i : Nat) : Tg := asg i
def tgs : List Tg → List W → S → Option S
  | [], [], s => some s
  | t :: ts, x :: xs, s => match t (.w x) s with
    | some s1 => tgs ts xs s1
    | none => none
  | _, _, _ => none
def tgT (ts : List Tg) : Tg := fun r s => match r with
  | .w x => match x.items with
    | some ws => tgs ts ws s
    | none => none
  | _ => none
/-- two names at once, from two expressions -/
def parS (i j : Nat) (a : As) : St := fun s => ofRes (a s) fun rs s1 => match boxes rs s1 with
  | some ([x, y], s2) => (match asg i (.w x) s2 with
    | some s3 => ofOpt (asg j (.w y) s3)
    | none => .bad)
  | _ => .bad
def unpS (t : Tg) (e : Ex) : St := fun s => ofRes (e s) fun r s1 => ofOpt (t r s1)
/-- o[i] = v, by values -/
def dput (kvs : List (D × W)) (k : D) (v : W) : List (D × W) :=
  if (kvs.any fun q => decide (q.1 = k)) = true then kvs.map (fun q => if q.1 = k then (q.1, v) else q) else kvs ++ [(k, v)]
def putV (o i : R) (x : W) (s : S) : Option S := match locR s o, i with
  | some p, .w (.d k) => match getO s p with
    | some (.lst ws) => match k with
      | .int n => (ixN ws.length n).map fun j => setO s p (.lst (ws.set j x))
      | _ => none
    | some (.dct false kvs) => if k.isKey && decide (kvs.length < LN) then some (setO s p (.dct false (dput kvs k x))) else none
    | _ => none
  | _, _ => none
def putS (o i e : Ex) : St := fun s => ofRes (e s) fun r s1 => ofRes (o s1) fun ro s2 => ofRes (i s2) fun ri s3 => match boxR r s3 with
  | some (x, s4) => ofOpt (putV ro ri x s4)
  | none => .bad
/-- methods of lists: the receiver, the arguments -/
def isLst (s : S) (r : R) : Bool := match objR s r with
  | some (.lst _) => true
  | _ => false
def meth (f : S → R → List R → Option (R × S)) (o : Ex) (as : As) : Ex := fun s => (o s).bind fun r s1 => if isLst s1 r then ((as s1).bind fun rs s2 => match f s2 r rs with
  | some (x, s3) => .ok x s3
  | none => .bad) else .bad
def appendV (s : S) (o : R) : List R → Option (R × S)
  | [r] => match boxR r s with
    | some (x, s1) => match locR s1 o with
      | some p => match getO s1 p with
        | some (.lst ws) => if ws.length < LN then some (.w (.d .non), setO s1 p (.lst (ws ++ [x]))) else none
        | _ => none
      | none => none
    | none => none
  | _ => none
def popV (s : S) (o : R) : List R → Option (R × S)
  | [] => match locR s o with
    | some p => match getO s p with
      | some (.lst ws) => match ws.getLast? with
        | some x => some (.w x, setO s p (.lst ws.dropLast))
        | none => none
      | _ => none
    | none => none
  | [.w (.d (.int i))] => match locR s o with
    | some p => match getO s p with
      | some (.lst ws) => if -(2 ^ 63) ≤ i ∧ i < 2 ^ 63 then (match ixN ws.length i with
        | some j => match ws[j]? with
          | some x => some (.w x, setO s p (.lst (ws.eraseIdx j)))
          | none => none
        | none => none) else none
      | _ => none
    | none => none
  | _ => none
def insertV (s : S) (o : R) : List R → Option (R × S)
  | [.w (.d (.int i)), r] => match boxR r s with
    | some (x, s1) => match locR s1 o with
      | some p => match getO s1 p with
        | some (.lst ws) => if ws.length < LN ∧ 0 ≤ i ∧ i < 2 ^ 63 then some (.w (.d .non), setO s1 p (.lst (ws.take i.toNat ++ [x] ++ ws.drop i.toNat))) else none
        | _ => none
      | none => none
    | none => none
  | _ => none

/-! ### loops -/
/-- behind a turn -/
def turnO (k : S → Out) : Out → Out
  | .nx s => k s
  | .ct s => k s
  | .bk s => .nx s
  | .rt r s => .rt r s
  | .exc c xs s => .exc c xs s
  | .bad => .bad
def whileN (t : Tm) (b : St) : Nat → St
  | 0, _ => .bad
  | n + 1, s => ofRes (t s) fun x s1 => if x then turnO (whileN t b n) (b s1) else .nx s1
/-- the most turns of a while -/
def WN : Nat := 2 ^ 40
def whileS (t : Tm) (b : St) : St := whileN t b WN
/-- what a for walks: the items, the object that must stay as it is -/
structure It where
  items : List W
  keep : Option (Nat × O)
def kept (s : S) (k : Option (Nat × O)) : Bool := match k with
  | none => true
  | some (j, o) => decide (s.h[j]? = some o)
def forL (k : Option (Nat × O)) (t : Tg) (b : St) : List W → St
  | [], s => if kept s k then .nx s else .bad
  | x :: xs, s => if kept s k then (match t (.w x) s with
    | some s1 => turnO (forL k t b xs) (b s1)
    | none => .bad) else .bad
def forS (it : S → Res It) (t : Tg) (b : St) : St := fun s => ofRes (it s) fun i s1 => forL i.keep t b i.items s1
/-- the list, tuple, text that a result is: a list goes to the heap -/
def itR (r : R) (s1 : S) : Res It := match seqR s1 r with
  | some (false, ws) => .ok ⟨ws, none⟩ s1
  | some (true, ws) => (match boxR r s1 with
    | some (.ref j, s2) => .ok ⟨ws, some (j, .lst ws)⟩ s2
    | _ => .bad)
  | none => match r with
    | .w (.d (.str a)) => if a.length ≤ LN then .ok ⟨a.map fun c => .d (.str [c]), none⟩ s1 else .bad
    | .w (.scr ns) => .ok ⟨ns.map fun i => .d (.int i), none⟩ s1
    | _ => .bad
def itE (a : Ex) : S → Res It := fun s => (a s).bind itR
def small (i : Int) : Bool := decide (-(2 ^ 62) ≤ i) && decide (i < 2 ^ 62)
def uptoN (lo : Int) (n : Nat) : List W := (List.range n).map fun i : Nat => W.d (.int (lo + (i : Int)))
def itR1 (a : Ex) : S → Res It := fun s => (a s).bind fun r s1 => match r with
  | .w (.d (.int n)) => if small n then .ok ⟨uptoN 0 n.toNat, none⟩ s1 else .bad
  | _ => .bad
def itR2 (a b : Ex) : S → Res It := fun s => (a s).bind fun r s1 => (b s1).bind fun q s2 => match r, q with
  | .w (.d (.int m)), .w (.d (.int n)) => if small m && small n then .ok ⟨uptoN m (n - m).toNat, none⟩ s2 else .bad
  | _, _ => .bad
def enumL (k : Nat) : List W → List W
  | [] => []
  | x :: xs => mkTup [.d (.int k), x] :: enumL (k + 1) xs
/-- enumerate of a list, a tuple -/
def itEnum (a : Ex) : S → Res It := fun s => (a s).bind fun r s1 => match seqR s1 r with
  | some _ => (itR r s1).bind fun i s2 => .ok ⟨enumL 0 i.items, i.keep⟩ s2
  | none => .bad
/-- the object that a slot holds goes to the heap -/
def pullS (i : Nat) (s : S) : Option (Nat × S) := match s.ρ[i]? with
  | some (.own o) => some (s.h.length, ⟨s.ρ.set i (.w (.ref s.h.length)), s.h ++ [o]⟩)
  | some (.w (.ref j)) => some (j, s)
  | _ => none
def thaw (j : Nat) (kvs : List (D × W)) (s : S) : Option S := if s.h[j]? = some (.dct true kvs) then some ⟨s.ρ, s.h.set j (.dct false kvs)⟩ else none
def thawO (j : Nat) (kvs : List (D × W)) : Out → Out
  | .nx s => ofOpt (thaw j kvs s)
  | .rt r s => match r, thaw j kvs s with
    | .w x, some s1 => .rt (.w x) s1
    | _, _ => .bad
  | .bk s => match thaw j kvs s with
    | some s1 => .bk s1
    | none => .bad
  | .ct s => match thaw j kvs s with
    | some s1 => .ct s1
    | none => .bad
  | _ => .bad
/-- for .. in the dict that a slot holds -/
def forD (i : Nat) (t : Tg) (b : St) : St := fun s => match pullS i s with
  | some (j, s1) => (match s1.h[j]? with
    | some (.dct false kvs) => thawO j kvs (forL (some (j, .dct true kvs)) t b (kvs.map fun q => W.d q.1) ⟨s1.ρ, s1.h.set j (.dct true kvs)⟩)
    | _ => .bad)
  | none => .bad
/-- a comprehension: its own slots are forgotten within it, as they were behind it -/
def wipe (vs : List Nat) (ρ : List E0) : List E0 := match vs with
  | [] => ρ
  | v :: vs => (wipe vs ρ).set v .un
def E0.free : E0 → Bool
  | .own _ => false
  | _ => true
def frees (vs : List Nat) (s : S) : Bool := vs.all fun v => (s.ρ.getD v .un).free
def restore (vs : List Nat) (ρ₀ ρ : List E0) : List E0 := match vs with
  | [] => ρ
  | v :: vs => (restore vs ρ₀ ρ).set v (ρ₀.getD v .un)
def lcL (k : Option (Nat × O)) (t : Tg) (c : Tm) (e : Ex) (vs : List Nat) : List W → List W → S → Option (List W × S)
  | [], acc, s => if kept s k && frees vs s then some (acc, s) else none
  | x :: xs, acc, s => if kept s k && frees vs s then (match t (.w x) ⟨wipe vs s.ρ, s.h⟩ with
    | some s1 => (match c s1 with
      | .ok true s2 => (match e s2 with
        | .ok r s3 => (match boxR r s3 with
          | some (y, s4) => if acc.length < LN then lcL k t c e vs xs (acc ++ [y]) s4 else none
          | none => none)
        | _ => none)
      | .ok false s2 => lcL k t c e vs xs acc s2
      | _ => none)
    | none => none) else none
def lcE (it : S → Res It) (t : Tg) (c : Tm) (e : Ex) (vs : List Nat) : Ex := fun s => (it s).bind fun i s1 => match lcL i.keep t c e vs i.items [] s1 with
  | some (ws, s2) => .ok (.new (.lst ws)) ⟨restore vs s1.ρ s2.ρ, s2.h⟩
  | none => .bad
def yesT : Tm := fun s => .ok true s

/-! ### calls -/
abbrev Call := Nat → List W → List O → Res2
/-- a def: its parameters, its slots, its body -/
structure Fn where
  ps : Nat
  n : Nat
  body : Call → St
def outF : Out → Res2
  | .nx s => .ok (.w (.d .non)) s.h
  | .rt r s => match r with
    | .slot i => (match s.ρ[i]? with
      | some (.own o) => .ok (.new o) s.h
      | some (.w x) => .ok (.w x) s.h
      | _ => .bad)
    | r => .ok r s.h
  | .exc c xs s => .exc c xs s.h
  | _ => .bad
def callF (fns : List Fn) : Nat → Call
  | 0, _, _, _ => .bad
  | k + 1, f, ws, h => match fns[f]? with
    | some F => if ws.length = F.ps then outF (F.body (callF fns k) ⟨ws.map .w ++ List.replicate (F.n - F.ps) .un, h⟩) else .bad
    | none => .bad
def backC (ρ : List E0) : Res2 → Res R
  | .ok r h => .ok r ⟨ρ, h⟩
  | .exc c xs h => .exc c xs ⟨ρ, h⟩
  | .bad => .bad
def callE (call : Call) (f : Nat) (as : As) : Ex := fun s => (as s).bind fun rs s1 => match boxes rs s1 with
  | some (ws, s2) => backC s2.ρ (call f ws s2.h)
  | none => .bad
mutual
/-- nothing that can change -/
def W.pure : W → Bool
  | .d _ => true
  | .scr _ => true
  | .ref _ => false
  | .tup ws => W.pures ws
def W.pures : List W → Bool
  | [] => true
  | w :: ws => W.pure w && W.pures ws
end
def pureR : R → Bool
  | .w x => x.pure
  | .new (.lst ws) => W.pures ws
  | .new (.dct false kvs) => W.pures (kvs.map (·.2))
  | _ => false
/-- behind a call that saw nothing of the heap -/
def backP (s : S) : Res2 → Res R
  | .ok r _ => if pureR r then .ok r s else .bad
  | .exc c xs _ => .exc c xs s
  | .bad => .bad
def callV (call : Call) (f : Nat) (ws : List W) (s2 : S) : Res R := if W.pures ws then backP s2 (call f ws []) else backC s2.ρ (call f ws s2.h)
/-- a call; where the arguments cannot change it sees nothing of the heap -/
def callH (call : Call) (f : Nat) (as : As) : Ex := fun s => (as s).bind fun rs s1 => match boxes rs s1 with
  | some (ws, s2) => callV call f ws s2
  | none => .bad
def callHK (call : Call) (f : Nat) (perm : List Nat) (as : As) : Ex := fun s => (as s).bind fun rs s1 => match boxes rs s1 with
  | some (ws, s2) => if ws.length = perm.length then callV call f (perm.map fun i => ws.getD i (.d .non)) s2 else .bad
  | none => .bad
/-- .. by keywords: perm tells for each parameter where its value is written -/
def callK (call : Call) (f : Nat) (perm : List Nat) (as : As) : Ex := fun s => (as s).bind fun rs s1 => match boxes rs s1 with
  | some (ws, s2) => if ws.length = perm.length then backC s2.ρ (call f (perm.map fun i => ws.getD i (.d .non)) s2.h) else .bad
  | none => .bad
end Mn

set_option linter.all false
/-! BF: least sums along edges, round by round; what a lowering in the last round tells. Plain Lean. -/
namespace BF
abbrev Ed := Nat × Nat × Int
abbrev Ss := List (Option Int)
def g (s : Ss) (v : Nat) : Option Int := s.getD v none
def low (s : Ss) (e : Ed) : Option Int := match g s e.1 with
  | none => none
  | some a => match g s e.2.1 with
    | none => some (a + e.2.2)
    | some b => if a + e.2.2 < b then some (a + e.2.2) else none
theorem low_some {s : Ss} {e : Ed} {y : Int} (h : low s e = some y) : ∃ a, g s e.1 = some a ∧ y = a + e.2.2 ∧ ∀ b, g s e.2.1 = some b → y < b := by
  unfold low at h
  cases q : g s e.1 with
  | none => rw [q] at h; cases h
  | some a =>
    rw [q] at h
    cases q2 : g s e.2.1 with
    | none => rw [q2] at h; cases h; exact ⟨a, rfl, rfl, fun b z => nomatch z⟩
    | some b =>
      rw [q2] at h
      simp only at h
      by_cases hl : a + e.2.2 < b
      · rw [if_pos hl] at h; cases h; exact ⟨a, rfl, rfl, fun b' z => by cases z; exact hl⟩
      · rw [if_neg hl] at h; cases h
theorem low_none {s : Ss} {e : Ed} {a : Int} (h : low s e = none) (q : g s e.1 = some a) : ∃ b, g s e.2.1 = some b ∧ b ≤ a + e.2.2 := by
  unfold low at h
  rw [q] at h
  cases q2 : g s e.2.1 with
  | none => rw [q2] at h; cases h
  | some b =>
    rw [q2] at h
    simp only at h
    by_cases hl : a + e.2.2 < b
    · rw [if_pos hl] at h; cases h
    · exact ⟨b, rfl, by omega⟩
theorem low_ne {s : Ss} {e : Ed} {a : Int} (q : g s e.1 = some a) (h : ∀ b, g s e.2.1 = some b → a + e.2.2 < b) : low s e = some (a + e.2.2) := by
  unfold low
  rw [q]
  cases q2 : g s e.2.1 with
  | none => rfl
  | some b => simp only; rw [if_pos (h b q2)]
theorem g_set {s : Ss} {v i : Nat} {x : Option Int} (h : v < s.length) : g (s.set v x) i = if i = v then x else g s i := by
  unfold g
  rw [List.getD_eq_getElem?_getD, List.getD_eq_getElem?_getD]
  by_cases e : i = v
  · subst e; rw [List.getElem?_set_self h, if_pos rfl]; rfl
  · rw [List.getElem?_set_ne (Ne.symm e), if_neg e]
/-- the sums, the edge that lowered last, the round in which that was -/
structure X where
  s : Ss
  par : Nat → Option Nat
  rd : Nat → Nat
def put {α : Type} (f : Nat → α) (v : Nat) (x : α) : Nat → α := fun i => if i = v then x else f i
def stp (r i : Nat) (e : Ed) (x : X) : X := match low x.s e with
  | some y => ⟨x.s.set e.2.1 (some y), put x.par e.2.1 (some i), put x.rd e.2.1 r⟩
  | none => x
def run (r : Nat) : Nat → List Ed → X → X
  | _, [], x => x
  | i, e :: l, x => run r (i + 1) l (stp r i e x)
def Ok (n : Nat) (es : List Ed) : Prop := ∀ e ∈ es, e.1 < n ∧ e.2.1 < n
/-- where the last edge came from, what it weighs -/
def pr (es : List Ed) (x : X) (v : Nat) : Nat := match x.par v with
  | some j => (es.getD j (0, 0, 0)).1
  | none => v
def wt (es : List Ed) (x : X) (v : Nat) : Int := match x.par v with
  | some j => (es.getD j (0, 0, 0)).2.2
  | none => 0
def it (f : Nat → Nat) : Nat → Nat → Nat
  | 0, v => v
  | n + 1, v => it f n (f v)
def tot (f : Nat → Nat) (w : Nat → Int) : Nat → Nat → Int
  | 0, _ => 0
  | n + 1, v => w v + tot f w n (f v)
theorem it_add (f : Nat → Nat) : ∀ a b v, it f (a + b) v = it f b (it f a v)
  | 0, b, v => by simp [it]
  | a + 1, b, v => by rw [Nat.add_right_comm]; exact it_add f a b (f v)
theorem tot_add (f : Nat → Nat) (w : Nat → Int) : ∀ a b v, tot f w (a + b) v = tot f w a v + tot f w b (it f a v)
  | 0, b, v => by simp [tot, it]
  | a + 1, b, v => by
    rw [Nat.add_right_comm]
    show w v + tot f w (a + b) (f v) = w v + tot f w a (f v) + tot f w b (it f a (f v))
    rw [tot_add f w a b (f v)]
    omega
theorem it_succ (f : Nat → Nat) (n v : Nat) : it f (n + 1) v = f (it f n v) := by rw [it_add f n 1 v]; rfl
/-- the invariant: r the round under way, dn the edges done in it -/
structure Inv (n : Nat) (es : List Ed) (r dn : Nat) (x : X) : Prop where
  len : x.s.length = n
  ok : ∀ v j, x.par v = some j → ∃ u w a b, es[j]? = some (u, v, w) ∧ g x.s u = some a ∧ g x.s v = some b ∧ a + w ≤ b
  cyc : ∀ v L, 0 < L → (∀ i, i < L → x.par (it (pr es x) i v) ≠ none) → it (pr es x) L v = v → tot (pr es x) (wt es x) L v < 0
  rdp : ∀ v, 0 < x.rd v ↔ x.par v ≠ none
  rdl : ∀ v, x.rd v ≤ r
  chain : ∀ v, x.par v ≠ none → x.rd v ≤ x.rd (pr es x v) + 1
  sat : ∀ i e, es[i]? = some e → low x.s e ≠ none → (if i < dn then r else r - 1) ≤ x.rd e.1
theorem Inv.tele {n : Nat} {es : List Ed} {r dn : Nat} {x : X} (I : Inv n es r dn x) : ∀ L v b, 0 < L → (∀ i, i < L → x.par (it (pr es x) i v) ≠ none) → g x.s v = some b → ∃ a, g x.s (it (pr es x) L v) = some a ∧ a + tot (pr es x) (wt es x) L v ≤ b := by
  intro L
  induction L with
  | zero => intro v b h; omega
  | succ L ih =>
    intro v b _ hp hb
    have h0 := hp 0 (by omega)
    cases q : x.par v with
    | none => exact absurd q h0
    | some j =>
      obtain ⟨u, w, a, b', e1, e2, e3, e4⟩ := I.ok v j q
      rw [hb] at e3
      cases e3
      have ep : pr es x v = u := by unfold pr; rw [q]; simp only; rw [List.getD_eq_getElem?_getD, e1]; rfl
      have ew : wt es x v = w := by unfold wt; rw [q]; simp only; rw [List.getD_eq_getElem?_getD, e1]; rfl
      show ∃ a, g x.s (it (pr es x) L (pr es x v)) = some a ∧ a + (wt es x v + tot (pr es x) (wt es x) L (pr es x v)) ≤ b
      rw [ep, ew]
      by_cases hL : L = 0
      · subst hL
        exact ⟨a, e2, by simp only [tot]; omega⟩
      · obtain ⟨a', q1, q2⟩ := ih u a (by omega) (fun i hi => by have := hp (i + 1) (by omega); rw [show it (pr es x) (i + 1) v = it (pr es x) i (pr es x v) from rfl, ep] at this; exact this) e2
        exact ⟨a', q1, by omega⟩
/-- a turn about -/
theorem tot_rot (f : Nat → Nat) (w : Nat → Int) {L v : Nat} (h : it f L v = v) (i : Nat) : it f L (it f i v) = it f i v ∧ tot f w L (it f i v) = tot f w L v := by
  have h1 : it f L (it f i v) = it f i v := by rw [← it_add, Nat.add_comm, it_add, h]
  refine ⟨h1, ?_⟩
  have a := tot_add f w i L v
  have b := tot_add f w L i v
  rw [h] at b
  rw [Nat.add_comm] at b
  omega
theorem put_same {α : Type} {f : Nat → α} {v : Nat} {x : α} : put f v x v = x := by simp [put]
theorem put_ne {α : Type} {f : Nat → α} {v i : Nat} {x : α} (h : i ≠ v) : put f v x i = f i := by simp [put, h]
theorem Inv.step {n : Nat} {es : List Ed} {r dn : Nat} {x : X} {e : Ed} (hr : 0 < r) (ok : Ok n es) (I : Inv n es r dn x) (he : es[dn]? = some e) : Inv n es r (dn + 1) (stp r dn e x) := by
  obtain ⟨u, v, w⟩ := e
  have hm := ok _ (List.mem_of_getElem? he)
  unfold stp
  cases q : low x.s (u, v, w) with
  | none =>
    refine ⟨I.len, I.ok, I.cyc, I.rdp, I.rdl, I.chain, fun i e hi hl => ?_⟩
    have := I.sat i e hi hl
    by_cases h1 : i < dn + 1
    · rw [if_pos h1]
      by_cases h2 : i < dn
      · rw [if_pos h2] at this; exact this
      · have : i = dn := by omega
        subst this
        rw [he] at hi
        cases hi
        exact absurd q hl
    · rw [if_neg h1]
      rw [if_neg (by omega)] at this
      exact this
  | some y =>
    obtain ⟨a, qa, rfl, qb⟩ := low_some q
    simp only at qa qb
    have hv : v < x.s.length := by rw [I.len]; exact hm.2
    have gs : ∀ i, g (x.s.set v (some (a + w))) i = if i = v then some (a + w) else g x.s i := fun i => g_set hv
    -- values only fall
    have fall : ∀ i b, g x.s i = some b → ∃ b', g (x.s.set v (some (a + w))) i = some b' ∧ b' ≤ b := fun i b hb => by
      rw [gs]
      by_cases e : i = v
      · subst e; rw [if_pos rfl]; exact ⟨_, rfl, by have := qb b hb; omega⟩
      · rw [if_neg e]; exact ⟨b, hb, Int.le_refl _⟩
    have eE : es.getD dn (0, 0, 0) = (u, v, w) := by rw [List.getD_eq_getElem?_getD, he]; rfl
    generalize hx : (⟨x.s.set v (some (a + w)), put x.par v (some dn), put x.rd v r⟩ : X) = x'
    have xs : x'.s = x.s.set v (some (a + w)) := by rw [← hx]
    have xp : x'.par = put x.par v (some dn) := by rw [← hx]
    have xr : x'.rd = put x.rd v r := by rw [← hx]
    have pv : pr es x' v = u := by unfold pr; rw [xp, put_same]; simp only; rw [eE]
    have wv : wt es x' v = w := by unfold wt; rw [xp, put_same]; simp only; rw [eE]
    have po : ∀ i, i ≠ v → pr es x' i = pr es x i := fun i hi => by unfold pr; rw [xp, put_ne hi]
    have wo : ∀ i, i ≠ v → wt es x' i = wt es x i := fun i hi => by unfold wt; rw [xp, put_ne hi]
    have rge : ∀ i, x.rd i ≤ x'.rd i := fun i => by
      rw [xr]; unfold put
      by_cases hi : i = v
      · rw [if_pos hi]; exact I.rdl i
      · rw [if_neg hi]; exact Nat.le_refl _
    -- an orbit that does not meet v is an old one
    have old : ∀ L z, (∀ i, i < L → it (pr es x') i z ≠ v) → (∀ i, i ≤ L → it (pr es x') i z = it (pr es x) i z) ∧ tot (pr es x') (wt es x') L z = tot (pr es x) (wt es x) L z := by
      intro L
      induction L with
      | zero =>
        intro z _
        refine ⟨fun i hi => ?_, rfl⟩
        have e : i = 0 := by omega
        subst e
        rfl
      | succ L ih =>
        intro z h
        have hz : z ≠ v := h 0 (by omega)
        obtain ⟨h1, h2⟩ := ih (pr es x' z) fun i hi => h (i + 1) (by omega)
        refine ⟨fun i hi => ?_, ?_⟩
        · cases i with
          | zero => rfl
          | succ i => show it (pr es x') i (pr es x' z) = it (pr es x) i (pr es x z); rw [h1 i (by omega), po z hz]
        · show wt es x' z + tot (pr es x') (wt es x') L (pr es x' z) = wt es x z + tot (pr es x) (wt es x) L (pr es x z)
          rw [h2, wo z hz, po z hz]
    -- round v and back, for the first time
    have first : ∀ L, 0 < L → (∀ i, i < L → x'.par (it (pr es x') i v) ≠ none) → it (pr es x') L v = v → (∀ i, 0 < i → i < L → it (pr es x') i v ≠ v) → tot (pr es x') (wt es x') L v < 0 := by
      intro L hL hp hc hf
      obtain ⟨L, rfl⟩ : ∃ k, L = k + 1 := ⟨L - 1, by omega⟩
      show wt es x' v + tot (pr es x') (wt es x') L (pr es x' v) < 0
      rw [wv, pv]
      have hc : it (pr es x') L (pr es x' v) = v := hc
      rw [pv] at hc
      have av : ∀ i, i < L → it (pr es x') i u ≠ v := fun i hi => by
        have := hf (i + 1) (by omega) (by omega)
        rw [show it (pr es x') (i + 1) v = it (pr es x') i (pr es x' v) from rfl, pv] at this
        exact this
      obtain ⟨o1, o2⟩ := old L u av
      rw [o2]
      by_cases h0 : L = 0
      · subst h0
        have : u = v := hc
        subst this
        have := qb a qa
        simp only [tot]
        omega
      · have hpo : ∀ i, i < L → x.par (it (pr es x) i u) ≠ none := fun i hi => by
          have := hp (i + 1) (by omega)
          rw [show it (pr es x') (i + 1) v = it (pr es x') i (pr es x' v) from rfl, pv, xp, put_ne (av i hi), o1 i (by omega)] at this
          exact this
        obtain ⟨b, hb, ht⟩ := I.tele L u a (by omega) hpo qa
        rw [← o1 L (Nat.le_refl _), hc] at hb
        have := qb b hb
        omega
    have atv : ∀ L, 0 < L → (∀ i, i < L → x'.par (it (pr es x') i v) ≠ none) → it (pr es x') L v = v → tot (pr es x') (wt es x') L v < 0 := by
      intro L
      induction L using Nat.strongRecOn with
      | ind L ih =>
        intro hL hp hc
        by_cases hf : ∃ i, 0 < i ∧ i < L ∧ it (pr es x') i v = v
        · obtain ⟨i, h1, h2, h3⟩ := hf
          have t1 := ih i h2 h1 (fun j hj => hp j (by omega)) h3
          have e : L = i + (L - i) := by omega
          have hc2 : it (pr es x') (L - i) v = v := by
            have := it_add (pr es x') i (L - i) v
            rw [← e, hc, h3] at this
            exact this.symm
          have t2 := ih (L - i) (by omega) (by omega) (fun j hj => hp j (by omega)) hc2
          rw [e, tot_add, h3]
          omega
        · exact first L hL hp hc fun i h1 h2 h3 => hf ⟨i, h1, h2, h3⟩
    show Inv n es r (dn + 1) (⟨x.s.set v (some (a + w)), put x.par v (some dn), put x.rd v r⟩ : X)
    rw [hx]
    refine ⟨by rw [xs, List.length_set]; exact I.len, fun z j hz => ?_, fun z L hL hp hc => ?_, fun z => ?_, fun z => ?_, fun z hz => ?_, fun i e hi hl => ?_⟩
    · rw [xp] at hz
      by_cases ez : z = v
      · subst ez
        rw [put_same] at hz
        cases hz
        obtain ⟨a', q1, q2⟩ := fall u a qa
        refine ⟨u, w, a', a + w, he, by rw [xs]; exact q1, by rw [xs, gs, if_pos rfl], by omega⟩
      · rw [put_ne ez] at hz
        obtain ⟨u', w', a', b', e1, e2, e3, e4⟩ := I.ok z j hz
        obtain ⟨a2, q1, q2⟩ := fall u' a' e2
        exact ⟨u', w', a2, b', e1, by rw [xs]; exact q1, by rw [xs, gs, if_neg ez]; exact e3, by omega⟩
    · by_cases hf : ∃ i, i < L ∧ it (pr es x') i z = v
      · obtain ⟨i, h1, h2⟩ := hf
        obtain ⟨r1, r2⟩ := tot_rot (pr es x') (wt es x') hc i
        rw [h2] at r1 r2
        rw [← r2]
        refine atv L hL (fun j hj => ?_) r1
        rw [← h2, ← it_add]
        -- the orbit is all of it
        have key : ∀ m, x'.par (it (pr es x') m z) ≠ none := by
          intro m
          induction m using Nat.strongRecOn with
          | ind m ih =>
            by_cases hm : m < L
            · exact hp m hm
            · have e : m = L + (m - L) := by omega
              rw [e, it_add, hc]
              exact ih (m - L) (by omega)
        exact key _
      · have av : ∀ i, i < L → it (pr es x') i z ≠ v := fun i h1 h2 => hf ⟨i, h1, h2⟩
        obtain ⟨o1, o2⟩ := old L z av
        rw [o2]
        refine I.cyc z L hL (fun i hi => ?_) (by rw [← o1 L (Nat.le_refl _)]; exact hc)
        have := hp i hi
        rw [xp, put_ne (av i hi), o1 i (by omega)] at this
        exact this
    · rw [xr, xp]
      by_cases ez : z = v
      · subst ez; rw [put_same, put_same]; simp [hr]
      · rw [put_ne ez, put_ne ez]; exact I.rdp z
    · rw [xr]
      by_cases ez : z = v
      · subst ez; rw [put_same]; exact Nat.le_refl _
      · rw [put_ne ez]; exact I.rdl z
    · by_cases ez : z = v
      · subst ez
        have h1 : x'.rd z = r := by rw [xr, put_same]
        rw [h1, pv]
        have := I.sat dn _ he (by rw [q]; simp)
        rw [if_neg (by omega)] at this
        have h2 := rge u
        simp only at this
        omega
      · have h1 : x'.rd z = x.rd z := by rw [xr, put_ne ez]
        rw [h1, po z ez]
        have h3 : x.par z ≠ none := by rw [xp, put_ne ez] at hz; exact hz
        have := I.chain z h3
        have h2 := rge (pr es x z)
        omega
    · obtain ⟨ui, vi, wi⟩ := e
      by_cases eu : ui = v
      · subst eu
        have : x'.rd ui = r := by rw [xr, put_same]
        show _ ≤ x'.rd ui
        rw [this]
        split <;> omega
      · have hrd : x'.rd ui = x.rd ui := by rw [xr, put_ne eu]
        show _ ≤ x'.rd ui
        rw [hrd]
        by_cases ei : i = dn
        · subst ei
          rw [he] at hi
          cases hi
          exfalso
          apply hl
          rw [xs]
          unfold low
          simp only
          rw [gs, if_neg eu, qa]
          simp only
          rw [gs, if_pos rfl]
          simp
        · -- it was unsatisfied before
          have hl2 : low x.s (ui, vi, wi) ≠ none := by
            intro z
            apply hl
            rw [xs]
            unfold low
            simp only
            rw [gs, if_neg eu]
            cases qq : g x.s ui with
            | none => rfl
            | some c =>
              simp only
              obtain ⟨b, hb, hle⟩ := low_none z qq
              simp only at hb hle
              obtain ⟨b', h1, h2⟩ := fall vi b hb
              rw [h1]
              simp only
              rw [if_neg (by omega)]
          have := I.sat i _ hi hl2
          simp only at this
          by_cases h1 : i < dn
          · rw [if_pos h1] at this; rw [if_pos (by omega)]; exact this
          · rw [if_neg h1] at this; rw [if_neg (by omega)]; exact this

theorem Inv.runs {n : Nat} {es : List Ed} {r : Nat} (hr : 0 < r) (ok : Ok n es) : ∀ {l : List Ed} {dn : Nat} {x : X}, Inv n es r dn x → es.drop dn = l → Inv n es r (dn + l.length) (run r dn l x)
  | [], dn, x, I, _ => I
  | e :: l, dn, x, I, h => by
    have he : es[dn]? = some e := by
      have : (es.drop dn)[0]? = some e := by rw [h]; rfl
      rwa [List.getElem?_drop, Nat.add_zero] at this
    have hd : es.drop (dn + 1) = l := by rw [← List.drop_drop, h]; rfl
    have := Inv.runs hr ok (I.step hr ok he) hd
    show Inv n es r (dn + (l.length + 1)) (run r (dn + 1) l (stp r dn e x))
    rw [show dn + (l.length + 1) = dn + 1 + l.length by omega]
    exact this
theorem Inv.next {n : Nat} {es : List Ed} {r : Nat} {x : X} (I : Inv n es r es.length x) : Inv n es (r + 1) 0 x :=
  ⟨I.len, I.ok, I.cyc, I.rdp, fun v => Nat.le_succ_of_le (I.rdl v), I.chain, fun i e hi hl => by
    have := I.sat i e hi hl
    rw [if_pos (List.getElem?_eq_some_iff.mp hi).1] at this
    rw [if_neg (by omega)]
    exact this⟩
def X0 (s : Ss) : X := ⟨s, fun _ => none, fun _ => 0⟩
def rounds (es : List Ed) : Nat → X → X
  | 0, x => x
  | k + 1, x => run (k + 1) 0 es (rounds es k x)
theorem inv0 {n : Nat} {es : List Ed} {s : Ss} (h : s.length = n) : Inv n es 1 0 (X0 s) :=
  { len := h
    ok := fun v j z => by cases (show (none : Option Nat) = some j from z)
    cyc := fun v L hL hp _ => absurd rfl (hp 0 hL)
    rdp := fun v => ⟨fun z => absurd z (Nat.lt_irrefl 0), fun z => absurd rfl z⟩
    rdl := fun v => Nat.zero_le _
    chain := fun v z => absurd rfl z
    sat := fun i e _ _ => by rw [if_neg (by omega)]; exact Nat.zero_le _ }
theorem inv_rounds {n : Nat} {es : List Ed} {s : Ss} (ok : Ok n es) (h : s.length = n) : ∀ k, Inv n es (k + 1) 0 (rounds es k (X0 s))
  | 0 => inv0 h
  | k + 1 => by
    have I := inv_rounds ok h k
    have := Inv.runs (Nat.succ_pos k) ok I (l := es) rfl
    rw [Nat.zero_add] at this
    exact this.next
theorem rounds_rd {n : Nat} {es : List Ed} {s : Ss} (ok : Ok n es) (h : s.length = n) (k v : Nat) : (rounds es k (X0 s)).rd v ≤ k := by
  cases k with
  | zero => exact Nat.le_refl _
  | succ k =>
    have I := inv_rounds ok h k
    have := Inv.runs (Nat.succ_pos k) ok I (l := es) rfl
    exact this.rdl v
/-! ### as many as there are -/
theorem nodup_le : ∀ (n : Nat) (l : List Nat), l.Nodup → (∀ x ∈ l, x < n) → l.length ≤ n
  | 0, l, _, h => by
    cases l with
    | nil => exact Nat.le_refl _
    | cons x l => exact absurd (h x List.mem_cons_self) (Nat.not_lt_zero _)
  | n + 1, l, hn, h => by
    by_cases hm : n ∈ l
    · have := nodup_le n (l.erase n) (hn.erase n) fun x hx => by
        obtain ⟨h1, h2⟩ := (hn.mem_erase_iff).mp hx
        have := h x h2
        omega
      rw [List.length_erase_of_mem hm] at this
      omega
    · have := nodup_le n l hn fun x hx => by
        have h1 := h x hx
        have : x ≠ n := fun z => hm (z ▸ hx)
        omega
      omega
theorem nodup_map {f : Nat → Nat} : ∀ (m : Nat), (∀ i j, i < j → j < m → f i ≠ f j) → ((List.range m).map f).Nodup := fun m h => by
  rw [List.Nodup, List.pairwise_map]
  refine List.Pairwise.imp_of_mem ?_ (List.pairwise_lt_range (n := m))
  intro i j hi hj hij
  exact h i j hij (List.mem_range.mp hj)
theorem pigeon {f : Nat → Nat} {n : Nat} (h : ∀ i, i ≤ n → f i < n) : ∃ i j, i < j ∧ j ≤ n ∧ f i = f j := by
  by_cases q : ∃ i j, i < j ∧ j ≤ n ∧ f i = f j
  · exact q
  · have nd := nodup_map (f := f) (n + 1) fun i j h1 h2 h3 => q ⟨i, j, h1, by omega, h3⟩
    have := nodup_le n _ nd fun x hx => by
      obtain ⟨i, hi, rfl⟩ := List.mem_map.mp hx
      exact h i (by have := List.mem_range.mp hi; omega)
    rw [List.length_map, List.length_range] at this
    omega
theorem Inv.lt {n : Nat} {es : List Ed} {r dn : Nat} {x : X} (ok : Ok n es) (I : Inv n es r dn x) {v : Nat} (h : x.par v ≠ none) : v < n ∧ pr es x v < n := by
  cases q : x.par v with
  | none => exact absurd q h
  | some j =>
    obtain ⟨u, w, a, b, e1, _⟩ := I.ok v j q
    have := ok _ (List.mem_of_getElem? e1)
    refine ⟨this.2, ?_⟩
    unfold pr
    rw [q]
    simp only
    rw [List.getD_eq_getElem?_getD, e1]
    exact this.1
theorem chain_le {n : Nat} {es : List Ed} {r dn : Nat} {x : X} (I : Inv n es r dn x) {v k : Nat} (h : x.rd v = k + 1) : ∀ i, i ≤ k → x.par (it (pr es x) i v) ≠ none ∧ k + 1 ≤ x.rd (it (pr es x) i v) + i
  | 0, _ => ⟨(I.rdp v).mp (by omega), by show k + 1 ≤ x.rd v + 0; omega⟩
  | i + 1, hi => by
    obtain ⟨h1, h2⟩ := chain_le I h i (by omega)
    have h3 := I.chain _ h1
    rw [it_succ]
    exact ⟨(I.rdp _).mp (by omega), by omega⟩
/-- a lowering in round n + 1: the way back goes on for ever, round a ring -/
theorem orbit {n : Nat} {es : List Ed} {r dn : Nat} {x : X} (ok : Ok n es) (I : Inv n es r dn x) {v : Nat} (h : x.rd v = n + 1) :
    (∃ i j, i < j ∧ j ≤ n ∧ it (pr es x) i v = it (pr es x) j v) ∧ ∀ m, x.par (it (pr es x) m v) ≠ none := by
  have c := chain_le I h
  obtain ⟨i, j, h1, h2, h3⟩ := pigeon (f := fun i => it (pr es x) i v) (n := n) fun i hi => (I.lt ok (c i hi).1).1
  refine ⟨⟨i, j, h1, h2, h3⟩, fun m => ?_⟩
  induction m using Nat.strongRecOn with
  | ind m ih =>
    by_cases hm : m ≤ n
    · exact (c m hm).1
    · have e : it (pr es x) m v = it (pr es x) (m - (j - i)) v := by
        have h3 : it (pr es x) i v = it (pr es x) j v := h3
        rw [show m = j + (m - j) by omega, it_add, ← h3, ← it_add]
        congr 1
        omega
      rw [e]
      exact ih _ (by omega)
/-! ### potentials -/
def Pot (es : List Ed) (p : Nat → Int) : Prop := ∀ e ∈ es, p e.2.1 ≤ p e.1 + e.2.2
theorem Inv.potTele {n : Nat} {es : List Ed} {r dn : Nat} {x : X} (I : Inv n es r dn x) {p : Nat → Int} (hp : Pot es p) : ∀ L v, (∀ i, i < L → x.par (it (pr es x) i v) ≠ none) → p v ≤ p (it (pr es x) L v) + tot (pr es x) (wt es x) L v := by
  intro L
  induction L with
  | zero => intro v _; simp [it, tot]
  | succ L ih =>
    intro v h
    cases q : x.par v with
    | none => exact absurd q (h 0 (by omega))
    | some j =>
      obtain ⟨u, w, a, b', e1, e2, e3, e4⟩ := I.ok v j q
      have ep : pr es x v = u := by unfold pr; rw [q]; simp only; rw [List.getD_eq_getElem?_getD, e1]; rfl
      have ew : wt es x v = w := by unfold wt; rw [q]; simp only; rw [List.getD_eq_getElem?_getD, e1]; rfl
      have h1 := hp _ (List.mem_of_getElem? e1)
      have h2 := ih (pr es x v) fun i hi => h (i + 1) (by omega)
      show p v ≤ p (it (pr es x) L (pr es x v)) + (wt es x v + tot (pr es x) (wt es x) L (pr es x v))
      rw [ep] at h2 ⊢
      rw [ew]
      simp only at h1
      omega
theorem no_pot {n : Nat} {es : List Ed} {r dn : Nat} {x : X} (ok : Ok n es) (I : Inv n es r dn x) {p : Nat → Int} (hp : Pot es p) (v : Nat) : x.rd v ≠ n + 1 := fun h => by
  obtain ⟨⟨i, j, h1, h2, h3⟩, ho⟩ := orbit ok I h
  have e : it (pr es x) (j - i) (it (pr es x) i v) = it (pr es x) i v := by
    rw [← it_add, show i + (j - i) = j by omega]
    exact h3.symm
  have c := I.cyc (it (pr es x) i v) (j - i) (by omega) (fun k _ => by rw [← it_add]; exact ho _) e
  have t := I.potTele hp (j - i) (it (pr es x) i v) (fun k _ => by rw [← it_add]; exact ho _)
  rw [e] at t
  omega
/-! ### the sums alone -/
def rx (s : Ss) (e : Ed) : Ss := match low s e with
  | some y => s.set e.2.1 (some y)
  | none => s
def rnd (es : List Ed) (s : Ss) : Ss := es.foldl rx s
def mvd : List Ed → Ss → Bool
  | [], _ => false
  | e :: l, s => (low s e).isSome || mvd l (rx s e)
theorem stp_s (r i : Nat) (e : Ed) (x : X) : (stp r i e x).s = rx x.s e := by
  unfold stp rx
  cases low x.s e <;> rfl
theorem run_s (r : Nat) : ∀ (l : List Ed) (i : Nat) (x : X), (run r i l x).s = rnd l x.s
  | [], _, _ => rfl
  | e :: l, i, x => by show (run r (i + 1) l (stp r i e x)).s = rnd l (rx x.s e); rw [run_s r l, stp_s]
theorem run_keep (r : Nat) : ∀ (l : List Ed) (i : Nat) (x : X) (v : Nat), x.rd v = r → (run r i l x).rd v = r
  | [], _, _, _, h => h
  | e :: l, i, x, v, h => run_keep r l (i + 1) (stp r i e x) v (by
      unfold stp
      cases low x.s e with
      | none => exact h
      | some y => show put x.rd e.2.1 r v = r; unfold put; split <;> first | rfl | exact h)
theorem run_mv (r : Nat) : ∀ (l : List Ed) (i : Nat) (x : X), mvd l x.s = true → ∃ v, (run r i l x).rd v = r
  | [], _, _, h => nomatch h
  | e :: l, i, x, h => by
    show ∃ v, (run r (i + 1) l (stp r i e x)).rd v = r
    cases q : low x.s e with
    | some y =>
      refine ⟨e.2.1, run_keep r l _ _ _ ?_⟩
      unfold stp
      rw [q]
      exact put_same
    | none =>
      have h : ((low x.s e).isSome || mvd l (rx x.s e)) = true := h
      rw [q] at h
      rw [← stp_s r i] at h
      exact run_mv r l _ _ (by simpa using h)
theorem mvd_no : ∀ (l : List Ed) (s : Ss), mvd l s = false → rnd l s = s ∧ ∀ e ∈ l, low s e = none
  | [], _, _ => ⟨rfl, fun _ h => by cases h⟩
  | e :: l, s, h => by
    have h : ((low s e).isSome || mvd l (rx s e)) = false := h
    rw [Bool.or_eq_false_iff] at h
    have q : low s e = none := by simpa using h.1
    have er : rx s e = s := by unfold rx; rw [q]
    rw [er] at h
    obtain ⟨h1, h2⟩ := mvd_no l s h.2
    refine ⟨by show rnd l (rx s e) = s; rw [er]; exact h1, fun e' he => ?_⟩
    rcases List.mem_cons.mp he with rfl | he
    · exact q
    · exact h2 e' he
theorem mvd_of : ∀ (l : List Ed) (s : Ss), (∀ e ∈ l, low s e = none) → mvd l s = false
  | [], _, _ => rfl
  | e :: l, s, h => by
    have q := h e List.mem_cons_self
    have er : rx s e = s := by unfold rx; rw [q]
    show ((low s e).isSome || mvd l (rx s e)) = false
    rw [q, er, mvd_of l s fun e he => h e (List.mem_cons_of_mem _ he)]
    rfl
/-- round after round until nothing moves -/
def stl (es : List Ed) : Nat → Ss → Option Ss
  | 0, _ => none
  | k + 1, s => if mvd es s then stl es k (rnd es s) else some s
def rn (es : List Ed) : Nat → Ss → Ss
  | 0, s => s
  | k + 1, s => rnd es (rn es k s)
theorem rounds_s (es : List Ed) (s : Ss) : ∀ k, (rounds es k (X0 s)).s = rn es k s
  | 0 => rfl
  | k + 1 => by show (run (k + 1) 0 es (rounds es k (X0 s))).s = rnd es (rn es k s); rw [run_s, rounds_s es s k]
theorem rn_comm (es : List Ed) (s : Ss) : ∀ k, rn es k (rnd es s) = rn es (k + 1) s
  | 0 => rfl
  | k + 1 => by show rnd es (rn es k (rnd es s)) = rnd es (rn es (k + 1) s); rw [rn_comm es s k]
theorem stl_none {es : List Ed} : ∀ {k : Nat} {s : Ss}, stl es (k + 1) s = none → mvd es (rn es k s) = true
  | 0, s, h => by
    have h : (if mvd es s then stl es 0 (rnd es s) else some s) = none := h
    cases q : mvd es s with
    | true => exact q
    | false => rw [q] at h; cases h
  | k + 1, s, h => by
    have h : (if mvd es s then stl es (k + 1) (rnd es s) else some s) = none := h
    cases q : mvd es s with
    | true =>
      rw [q] at h
      have := stl_none (k := k) (s := rnd es s) h
      rw [rn_comm] at this
      exact this
    | false => rw [q] at h; cases h
theorem rn_stay {es : List Ed} {s : Ss} (h : mvd es s = false) : ∀ k, rn es k s = s
  | 0 => rfl
  | k + 1 => by show rnd es (rn es k s) = s; rw [rn_stay h k]; exact (mvd_no es s h).1
theorem stl_some {es : List Ed} : ∀ {k : Nat} {s t : Ss}, stl es k s = some t → mvd es t = false ∧ ∀ m, k ≤ m + 1 → rn es m s = t
  | 0, s, t, h => nomatch h
  | k + 1, s, t, h => by
    have h : (if mvd es s then stl es k (rnd es s) else some s) = some t := h
    cases q : mvd es s with
    | false =>
      rw [q] at h
      cases h
      exact ⟨q, fun m _ => rn_stay q m⟩
    | true =>
      rw [q] at h
      obtain ⟨h1, h2⟩ := stl_some (k := k) (s := rnd es s) (t := t) h
      refine ⟨h1, fun m hm => ?_⟩
      cases m with
      | zero =>
        have : k = 0 := by omega
        subst this
        cases h
      | succ m => rw [← rn_comm]; exact h2 m (by omega)
theorem rn_len {es : List Ed} {s : Ss} : ∀ k, (rn es k s).length = s.length := by
  have one : ∀ (l : List Ed) (s : Ss), (rnd l s).length = s.length := by
    intro l
    induction l with
    | nil => intro s; rfl
    | cons e l ih =>
      intro s
      show (rnd l (rx s e)).length = _
      rw [ih]
      unfold rx
      cases low s e with
      | none => rfl
      | some y => exact List.length_set
  intro k
  induction k with
  | zero => rfl
  | succ k ih => show (rnd es (rn es k s)).length = _; rw [one, ih]
/-- where there are potentials, it settles -/
theorem pot_settles {n : Nat} {es : List Ed} {s : Ss} {p : Nat → Int} (ok : Ok n es) (hl : s.length = n) (hp : Pot es p) : ∃ t, stl es (n + 1) s = some t := by
  cases q : stl es (n + 1) s with
  | some t => exact ⟨t, rfl⟩
  | none =>
    have m := stl_none q
    rw [← rounds_s] at m
    obtain ⟨v, hv⟩ := run_mv (n + 1) es 0 _ m
    exact absurd hv (no_pot ok (inv_rounds ok hl (n + 1)) hp v)
/-- .. and where it settles from noughts there are potentials -/
theorem settles_pot {n : Nat} {es : List Ed} {t : Ss} (ok : Ok n es) (h : mvd es t = false) (hs : ∀ v, v < n → g t v ≠ none) : Pot es fun v => (g t v).getD 0 := fun e he => by
  have q := (mvd_no es t h).2 e he
  have hm := ok e he
  cases q1 : g t e.1 with
  | none => exact absurd q1 (hs _ hm.1)
  | some a =>
    obtain ⟨b, h1, h2⟩ := low_none q q1
    show (g t e.2.1).getD 0 ≤ (g t e.1).getD 0 + e.2.2
    rw [h1, q1]
    exact h2
end BF

set_option linter.all false
/-! MnEv: the semantics step by step. Plain Lean. -/
namespace Mn
section
variable {s s1 s2 s3 : S} {a b c : Ex} {x y z r : R} {t u : Tm} {f : S → R → R → Option R} {f1 : S → R → Option R} {p q : St} {o : Out} {rs : List R}
theorem op2_ev (h1 : a s = .ok x s1) (h2 : b s1 = .ok y s2) (h3 : f s2 x y = some r) : op2 f a b s = .ok r s2 := by
  unfold op2; rw [h1]; simp only [Res.bind_ok]; rw [h2]; simp only [Res.bind_ok]; rw [h3]
theorem op1_ev (h1 : a s = .ok x s1) (h3 : f1 s1 x = some r) : op1 f1 a s = .ok r s1 := by
  unfold op1; rw [h1]; simp only [Res.bind_ok]; rw [h3]
theorem tst_ev {k : Bool} (h1 : a s = .ok x s1) (h2 : tru s1 x = some k) : tst a s = .ok k s1 := by
  unfold tst; rw [h1]; simp only [Res.bind_ok]; rw [h2]
theorem tst_b {k : Bool} (h1 : a s = .ok (bR k) s1) : tst a s = .ok k s1 := tst_ev h1 rfl
theorem andT_t {r : Res Bool} (h1 : t s = .ok true s1) (h2 : u s1 = r) : andT t u s = r := by
  unfold andT; rw [h1]; exact h2
theorem andT_f (h1 : t s = .ok false s1) : andT t u s = .ok false s1 := by
  unfold andT; rw [h1]; rfl
theorem orT_t (h1 : t s = .ok true s1) : orT t u s = .ok true s1 := by
  unfold orT; rw [h1]; rfl
theorem orT_f {r : Res Bool} (h1 : t s = .ok false s1) (h2 : u s1 = r) : orT t u s = r := by
  unfold orT; rw [h1]; exact h2
theorem notT_ev {k : Bool} (h1 : t s = .ok k s1) : notT t s = .ok (!k) s1 := by
  unfold notT; rw [h1]; rfl
theorem andE_t {r : Res R} (h1 : a s = .ok x s1) (h2 : tru s1 x = some true) (h3 : b s1 = r) : andE a b s = r := by
  unfold andE; rw [h1]; simp only [Res.bind_ok]; rw [h2]; exact h3
theorem andE_f (h1 : a s = .ok x s1) (h2 : tru s1 x = some false) : andE a b s = .ok x s1 := by
  unfold andE; rw [h1]; simp only [Res.bind_ok]; rw [h2]
theorem orE_t (h1 : a s = .ok x s1) (h2 : tru s1 x = some true) : orE a b s = .ok x s1 := by
  unfold orE; rw [h1]; simp only [Res.bind_ok]; rw [h2]
theorem orE_f {r : Res R} (h1 : a s = .ok x s1) (h2 : tru s1 x = some false) (h3 : b s1 = r) : orE a b s = r := by
  unfold orE; rw [h1]; simp only [Res.bind_ok]; rw [h2]; exact h3
theorem ite_t {r : Res R} (h1 : t s = .ok true s1) (h2 : a s1 = r) : iteE t a b s = r := by
  unfold iteE; rw [h1]; exact h2
theorem ite_f {r : Res R} (h1 : t s = .ok false s1) (h2 : b s1 = r) : iteE t a b s = r := by
  unfold iteE; rw [h1]; exact h2
theorem asC_ev {as : As} (h1 : a s = .ok x s1) (h2 : as s1 = .ok rs s2) : asC a as s = .ok (x :: rs) s2 := by
  unfold asC; rw [h1]; simp only [Res.bind_ok]; rw [h2]; rfl
theorem asN_ev : asN s = .ok [] s := rfl
theorem tup_ev {as : As} {ws : List W} (h1 : as s = .ok rs s1) (h2 : boxes rs s1 = some (ws, s2)) (h3 : ws.length ≤ LN) : tupE as s = .ok (.w (mkTup ws)) s2 := by
  unfold tupE; rw [h1]; simp only [Res.bind_ok]; rw [h2]; simp only [h3, if_true]
theorem lst_ev {as : As} {ws : List W} (h1 : as s = .ok rs s1) (h2 : boxes rs s1 = some (ws, s2)) (h3 : ws.length ≤ LN) : lstE as s = .ok (.new (.lst ws)) s2 := by
  unfold lstE; rw [h1]; simp only [Res.bind_ok]; rw [h2]; simp only [h3, if_true]
theorem meth_ev {f : S → R → List R → Option (R × S)} {as : As} (h1 : a s = .ok x s1) (h2 : isLst s1 x = true) (h3 : as s1 = .ok rs s2) (h4 : f s2 x rs = some (r, s3)) : meth f a as s = .ok r s3 := by
  unfold meth; rw [h1]; simp only [Res.bind_ok]; rw [if_pos h2, h3]; simp only [Res.bind_ok]; rw [h4]
theorem callH_ev {call : Call} {i : Nat} {as : As} {ws : List W} {r : Res R} (h1 : as s = .ok rs s1) (h2 : boxes rs s1 = some (ws, s2)) (h3 : callV call i ws s2 = r) : callH call i as s = r := by
  unfold callH; rw [h1]; simp only [Res.bind_ok]; rw [h2]; exact h3
theorem callE_ev {call : Call} {i : Nat} {as : As} {ws : List W} {r : Res2} (h1 : as s = .ok rs s1) (h2 : boxes rs s1 = some (ws, s2)) (h3 : call i ws s2.h = r) : callE call i as s = backC s2.ρ r := by
  unfold callE; rw [h1]; simp only [Res.bind_ok]; rw [h2]; simp only [h3]
theorem callV_p {call : Call} {i : Nat} {ws : List W} {h : List O} (h1 : W.pures ws = true) (h2 : call i ws [] = .ok r h) (h3 : pureR r = true) : callV call i ws s = .ok r s := by
  unfold callV; rw [if_pos h1, h2]; show (if pureR r then Res.ok r s else .bad) = _; rw [if_pos h3]
theorem callV_n {call : Call} {i : Nat} {ws : List W} {r : Res2} (h1 : W.pures ws = false) (h2 : call i ws s.h = r) : callV call i ws s = backC s.ρ r := by
  unfold callV; rw [h1, h2]; rfl
/-! statements -/
theorem seq_nx (h1 : p s = .nx s1) (h2 : q s1 = o) : seqS p q s = o := by unfold seqS; rw [h1]; exact h2
theorem seq_rt (h1 : p s = .rt r s1) : seqS p q s = .rt r s1 := by unfold seqS; rw [h1]
theorem if_t (h1 : t s = .ok true s1) (h2 : p s1 = o) : ifS t p q s = o := by unfold ifS; rw [h1]; exact h2
theorem if_f (h1 : t s = .ok false s1) (h2 : q s1 = o) : ifS t p q s = o := by unfold ifS; rw [h1]; exact h2
theorem ret_ev (h1 : a s = .ok x s1) : retS a s = .rt x s1 := by unfold retS; rw [h1]; rfl
theorem set_ev {i : Nat} (h1 : a s = .ok x s1) (h2 : asg i x s1 = some s2) : setS i a s = .nx s2 := by unfold setS; rw [h1]; simp only [ofRes_ok]; rw [h2]; rfl
theorem expr_ev (h1 : a s = .ok x s1) : exprS a s = .nx s1 := by unfold exprS; rw [h1]; rfl
theorem unp_ev {g : Tg} (h1 : a s = .ok x s1) (h2 : g x s1 = some s2) : unpS g a s = .nx s2 := by unfold unpS; rw [h1]; simp only [ofRes_ok]; rw [h2]; rfl
theorem put_ev {w : W} {s4 s5 : S} (h1 : c s = .ok x s1) (h2 : a s1 = .ok y s2) (h3 : b s2 = .ok z s3) (h4 : boxR x s3 = some (w, s4)) (h5 : putV y z w s4 = some s5) : putS a b c s = .nx s5 := by
  unfold putS; rw [h1]; simp only [ofRes_ok]; rw [h2]; simp only [ofRes_ok]; rw [h3]; simp only [ofRes_ok]; rw [h4]; simp only; rw [h5]; rfl
theorem par_ev {i j : Nat} {as : As} {w1 w2 : W} {s4 : S} (h1 : as s = .ok rs s1) (h2 : boxes rs s1 = some ([w1, w2], s2)) (h3 : asg i (.w w1) s2 = some s3) (h4 : asg j (.w w2) s3 = some s4) : parS i j as s = .nx s4 := by
  unfold parS; rw [h1]; simp only [ofRes_ok]; rw [h2]; simp only; rw [h3]; simp only; rw [h4]; rfl
theorem for_ev {it : S → Res It} {i : It} {g : Tg} (h1 : it s = .ok i s1) (h2 : forL i.keep g p i.items s1 = o) : forS it g p s = o := by unfold forS; rw [h1]; exact h2
theorem forL_nil {k : Option (Nat × O)} {g : Tg} (h : kept s k = true) : forL k g p [] s = .nx s := by unfold forL; rw [if_pos h]
theorem forL_cons {k : Option (Nat × O)} {g : Tg} {w : W} {ws : List W} (h : kept s k = true) (h1 : g (.w w) s = some s1) (h2 : p s1 = .nx s2) (h3 : forL k g p ws s2 = o) : forL k g p (w :: ws) s = o := by
  unfold forL; rw [if_pos h, h1]; simp only; rw [h2]; exact h3
theorem forL_rt {k : Option (Nat × O)} {g : Tg} {w : W} {ws : List W} (h : kept s k = true) (h1 : g (.w w) s = some s1) (h2 : p s1 = .rt r s2) : forL k g p (w :: ws) s = .rt r s2 := by
  unfold forL; rw [if_pos h, h1]; simp only; rw [h2]; rfl
theorem while_t {n : Nat} (h1 : t s = .ok true s1) (h2 : p s1 = .nx s2) (h3 : whileN t p n s2 = o) : whileN t p (n + 1) s = o := by
  unfold whileN; rw [h1]; simp only [ofRes_ok, if_true]; rw [h2]; exact h3
theorem while_f {n : Nat} (h1 : t s = .ok false s1) : whileN t p (n + 1) s = .nx s1 := by
  unfold whileN; rw [h1]; rfl
theorem itR1_ev {m : Int} (h1 : a s = .ok (iR m) s1) (h2 : small m = true) : itR1 a s = .ok ⟨uptoN 0 m.toNat, none⟩ s1 := by
  unfold itR1; rw [h1]; simp only [Res.bind_ok]; rw [if_pos h2]
theorem small_ok {m : Int} (h1 : -1000000 ≤ m) (h2 : m ≤ 1000000) : small m = true := by
  unfold small
  rw [Bool.and_eq_true]
  exact ⟨decide_eq_true (by omega), decide_eq_true (by omega)⟩
theorem seq_ref {j : Nat} {ws : List W} (e : s.h[j]? = some (.lst ws)) : seqR s (.w (.ref j)) = some (true, ws) := by
  have e1 : objR s (.w (.ref j)) = some (.lst ws) := e
  show (match objR s (.w (.ref j)) with
    | some (.lst ws) => some (true, ws)
    | _ => none) = _
  rw [e1]
end
end Mn

set_option linter.all false
/-! MnTac: lemmas for the step tactic. Plain Lean. -/
namespace Mn
section
variable {s s1 s2 s3 s4 s5 : S} {a b c : Ex} {x y z r : R} {t u : Tm} {f : S → R → R → Option R} {f1 : S → R → Option R} {p q : St} {o : Out} {rs : List R} {ws : List W}
theorem kE_ev {x : D} : kE x s = .ok (.w (.d x)) s := rfl
theorem vE_w {i : Nat} {x : W} (h : s.ρ[i]? = some (.w x)) : vE i s = .ok (.w x) s := by unfold vE; rw [h]
theorem vE_o {i : Nat} {x : O} (h : s.ρ[i]? = some (.own x)) : vE i s = .ok (.slot i) s := by unfold vE; rw [h]
theorem tupD_ev {as : As} {xs : List D} (h1 : as s = .ok rs s1) (h2 : boxes rs s1 = some (ws, s2)) (h4 : alld ws = some xs) (h3 : ws.length ≤ LN) : tupE as s = .ok (.w (.d (.tup xs))) s2 := by
  rw [tup_ev h1 h2 h3]; unfold mkTup; rw [h4]
theorem callV_q {call : Call} {i : Nat} {r : R} {h : List O} (h1 : W.pures ws = false) (h2 : call i ws s.h = .ok r h) : callV call i ws s = .ok r ⟨s.ρ, h⟩ := by
  unfold callV; rw [h1, h2]; rfl
theorem callE_q {call : Call} {i : Nat} {as : As} {r : R} {h : List O} (h1 : as s = .ok rs s1) (h2 : boxes rs s1 = some (ws, s2)) (h3 : call i ws s2.h = .ok r h) : callE call i as s = .ok r ⟨s2.ρ, h⟩ := by
  rw [callE_ev h1 h2 h3]; rfl
theorem callHK_ev {call : Call} {i : Nat} {as : As} {perm : List Nat} {r : Res R} (h1 : as s = .ok rs s1) (h2 : boxes rs s1 = some (ws, s2)) (h4 : ws.length = perm.length) (h3 : callV call i (perm.map fun i => ws.getD i (.d .non)) s2 = r) : callHK call i perm as s = r := by
  unfold callHK; rw [h1]; simp only [Res.bind_ok]; rw [h2]; simp only; rw [if_pos h4]; exact h3
theorem lc_ev {it : S → Res It} {i : It} {g : Tg} {vs : List Nat} (h1 : it s = .ok i s1) (h2 : lcL i.keep g t a vs i.items [] s1 = some (ws, s2)) : lcE it g t a vs s = .ok (.new (.lst ws)) ⟨restore vs s1.ρ s2.ρ, s2.h⟩ := by
  unfold lcE; rw [h1]; simp only [Res.bind_ok]; rw [h2]
theorem chE_t {f g : S → R → R → Option R} (h1 : a s = .ok x s1) (h2 : b s1 = .ok y s2) (h3 : f s2 x y = some (bR true)) (h4 : c s2 = .ok z s3) (h5 : g s3 y z = some r) : chE f g a b c s = .ok r s3 := by
  unfold chE; rw [h1]; simp only [Res.bind_ok]; rw [h2]; simp only [Res.bind_ok]; rw [h3]; simp only; rw [h4]; simp only [Res.bind_ok]; rw [h5]
theorem chE_f {f g : S → R → R → Option R} (h1 : a s = .ok x s1) (h2 : b s1 = .ok y s2) (h3 : f s2 x y = some (bR false)) : chE f g a b c s = .ok (bR false) s2 := by
  unfold chE; rw [h1]; simp only [Res.bind_ok]; rw [h2]; simp only [Res.bind_ok]; rw [h3]
theorem tst_eq {k k' : Bool} (h1 : a s = .ok x s1) (h2 : tru s1 x = some k') (h3 : k' = k) : tst a s = .ok k s1 := tst_ev h1 (h3 ▸ h2)
theorem notT_eq {k k' : Bool} (h1 : t s = .ok k' s1) (h3 : (!k') = k) : notT t s = .ok k s1 := by rw [notT_ev h1, h3]
theorem if_c {k : Bool} (h1 : t s = .ok k s1) (h2 : (k = true ∧ p s1 = o) ∨ (k = false ∧ q s1 = o)) : ifS t p q s = o := by
  rcases h2 with ⟨rfl, h⟩ | ⟨rfl, h⟩
  · exact if_t h1 h
  · exact if_f h1 h
theorem ite_c {k : Bool} {r : Res R} (h1 : t s = .ok k s1) (h2 : (k = true ∧ a s1 = r) ∨ (k = false ∧ b s1 = r)) : iteE t a b s = r := by
  rcases h2 with ⟨rfl, h⟩ | ⟨rfl, h⟩
  · exact ite_t h1 h
  · exact ite_f h1 h
theorem and_c {k : Bool} {r : Res Bool} (h1 : t s = .ok k s1) (h2 : (k = true ∧ u s1 = r) ∨ (k = false ∧ r = .ok false s1)) : andT t u s = r := by
  rcases h2 with ⟨rfl, h⟩ | ⟨rfl, h⟩
  · exact andT_t h1 h
  · rw [h]; exact andT_f h1
theorem or_c {k : Bool} {r : Res Bool} (h1 : t s = .ok k s1) (h2 : (k = true ∧ r = .ok true s1) ∨ (k = false ∧ u s1 = r)) : orT t u s = r := by
  rcases h2 with ⟨rfl, h⟩ | ⟨rfl, h⟩
  · rw [h]; exact orT_t h1
  · exact orT_f h1 h
theorem andE_c {k : Bool} {r : Res R} (h1 : a s = .ok x s1) (h2 : tru s1 x = some k) (h3 : (k = true ∧ b s1 = r) ∨ (k = false ∧ r = .ok x s1)) : andE a b s = r := by
  rcases h3 with ⟨rfl, h⟩ | ⟨rfl, h⟩
  · exact andE_t h1 h2 h
  · rw [h]; exact andE_f h1 h2
theorem orE_c {k : Bool} {r : Res R} (h1 : a s = .ok x s1) (h2 : tru s1 x = some k) (h3 : (k = true ∧ r = .ok x s1) ∨ (k = false ∧ b s1 = r)) : orE a b s = r := by
  rcases h3 with ⟨rfl, h⟩ | ⟨rfl, h⟩
  · rw [h]; exact orE_t h1 h2
  · exact orE_f h1 h2 h
theorem nx_ev : nxS s = .nx s := rfl
theorem sl_ev {lo hi : S → Res (Option Int)} {l u : Option Int} (h1 : a s = .ok x s1) (h2 : lo s1 = .ok l s2) (h3 : hi s2 = .ok u s3) (h4 : slV s3 x l u = some r) : slE a lo hi s = .ok r s3 := by
  unfold slE; rw [h1]; simp only [Res.bind_ok]; rw [h2]; simp only [Res.bind_ok]; rw [h3]; simp only [Res.bind_ok]; rw [h4]
theorem no_ev : noO s = .ok none s := rfl
theorem some_ev {i : Int} (h1 : a s = .ok (iR i) s1) : someO a s = .ok (some i) s1 := by unfold someO; rw [h1]; rfl
theorem itE_ev {i : Res It} (h1 : a s = .ok x s1) (h2 : itR x s1 = i) : itE a s = i := by unfold itE; rw [h1]; exact h2
theorem while_ev {n : Nat} {o : Out} (h : whileN t p n s = o) (hn : n = WN) : whileS t p s = o := by subst hn; exact h
end
theorem ixN_z {n : Nat} {v : Int} (h0 : 0 ≤ v) (h : v < n) : ixN n v = some v.toNat := by unfold ixN; rw [if_pos h0, if_pos h]
theorem atI_z {α : Type} {xs : List α} {v : Int} {x : α} (h0 : 0 ≤ v) (h : xs[v.toNat]? = some x) : atI xs v = some x := by
  have := (List.getElem?_eq_some_iff.mp h).1
  unfold atI; rw [ixN_z h0 (by omega)]; exact h
theorem ixz_tup {s : S} {xs : List D} {v : Int} {x : D} (h0 : 0 ≤ v) (h : xs[v.toNat]? = some x) : ixV s (.w (.d (.tup xs))) (iR v) = some (.w (.d x)) := by
  show ((atI xs v).map fun x => R.w (.d x)) = _
  rw [atI_z h0 h]; rfl
theorem ixz_own {s : S} {i : Nat} {v : Int} {ws : List W} {w : W} (e : s.ρ[i]? = some (.own (.lst ws))) (h0 : 0 ≤ v) (h : ws[v.toNat]? = some w) : ixV s (.slot i) (iR v) = some (.w w) := by
  have e1 : objR s (.slot i) = some (.lst ws) := by
    unfold objR locR; simp only [e, getO]
  show (match objR s (.slot i) with
    | some (.dct _ kvs) => _
    | _ => match (D.int v) with
      | .int i => ixSeq s (.slot _) i
      | _ => none) = _
  rw [e1]
  show (match seqR s (.slot i) with
    | some p => (atI p.2 v).map R.w
    | none => none) = _
  have e2 : seqR s (.slot i) = some (true, ws) := by
    show (match objR s (.slot i) with
      | some (.lst ws) => some (true, ws)
      | _ => none) = _
    rw [e1]
  rw [e2]
  show (atI ws v).map R.w = _
  rw [atI_z h0 h]; rfl
theorem ixz_ref {s : S} {j : Nat} {v : Int} {ws : List W} {w : W} (e : s.h[j]? = some (.lst ws)) (h0 : 0 ≤ v) (h : ws[v.toNat]? = some w) : ixV s (.w (.ref j)) (iR v) = some (.w w) := by
  have e1 : objR s (.w (.ref j)) = some (.lst ws) := e
  show (match objR s (.w (.ref j)) with
    | some (.dct _ kvs) => _
    | _ => match (D.int v) with
      | .int i => ixSeq s (.w (.ref j)) i
      | _ => none) = _
  rw [e1]
  show (match seqR s (.w (.ref j)) with
    | some p => (atI p.2 v).map R.w
    | none => none) = _
  rw [seq_ref e]
  show (atI ws v).map R.w = _
  rw [atI_z h0 h]; rfl
theorem app_slot {s : S} {i : Nat} {ws : List W} {x : W} (h1 : s.ρ[i]? = some (.own (.lst ws))) (h2 : ws.length < LN) : appendV s (.slot i) [.w x] = some (.w (.d .non), ⟨s.ρ.set i (.own (.lst (ws ++ [x]))), s.h⟩) := by
  unfold appendV
  show (match locR s (.slot i) with
      | some p => match getO s p with
        | some (.lst ws) => if ws.length < LN then some (R.w (.d .non), setO s p (.lst (ws ++ [x]))) else none
        | _ => none
      | none => none) = _
  have : locR s (.slot i) = some (.sl i) := by unfold locR; simp only [h1]
  rw [this]
  show (match getO s (.sl i) with
        | some (.lst ws) => if ws.length < LN then some (R.w (.d .non), setO s (.sl i) (.lst (ws ++ [x]))) else none
        | _ => none) = _
  have : getO s (.sl i) = some (.lst ws) := by unfold getO; simp only [h1]
  rw [this]
  show (if ws.length < LN then some (R.w (.d .non), setO s (.sl i) (.lst (ws ++ [x]))) else none) = _
  rw [if_pos h2]; rfl
/-- a for whose turns keep I -/
theorem forL_inv {k : Option (Nat × O)} {g : Tg} {p : St} {I : Nat → S → Prop} (ws : List W) (n0 : Nat) (hk : ∀ n s, I n s → kept s k = true)
    (step : ∀ n s w, ws[n]? = some w → I (n0 + n) s → ∃ s1 s2, g (.w w) s = some s1 ∧ p s1 = .nx s2 ∧ I (n0 + n + 1) s2) {s : S} (h0 : I n0 s) :
    ∃ s', forL k g p ws s = .nx s' ∧ I (n0 + ws.length) s' := by
  induction ws generalizing n0 s with
  | nil => exact ⟨s, forL_nil (hk _ _ h0), h0⟩
  | cons w ws ih =>
    obtain ⟨s1, s2, a, b, c⟩ := step 0 s w rfl h0
    obtain ⟨s', d, e⟩ := ih (n0 + 1) (fun n s w hw hI => by
      have := step (n + 1) s w hw (by rw [show n0 + (n + 1) = n0 + 1 + n by omega]; exact hI)
      rw [show n0 + (n + 1) + 1 = n0 + 1 + n + 1 by omega] at this
      exact this) c
    refine ⟨s', forL_cons (hk _ _ h0) a b d, ?_⟩
    rw [List.length_cons, show n0 + (ws.length + 1) = n0 + 1 + ws.length by omega]
    exact e
/-- .. or end in a return -/
theorem forL_invR {k : Option (Nat × O)} {g : Tg} {p : St} {I : Nat → S → Prop} {P : R → S → Prop} (ws : List W) (n0 : Nat) (hk : ∀ n s, I n s → kept s k = true)
    (step : ∀ n s w, ws[n]? = some w → I (n0 + n) s → ∃ s1 s2, g (.w w) s = some s1 ∧ ((p s1 = .nx s2 ∧ I (n0 + n + 1) s2) ∨ ∃ r, p s1 = .rt r s2 ∧ P r s2)) {s : S} (h0 : I n0 s) :
    ∃ s', (forL k g p ws s = .nx s' ∧ I (n0 + ws.length) s') ∨ ∃ r, forL k g p ws s = .rt r s' ∧ P r s' := by
  induction ws generalizing n0 s with
  | nil => exact ⟨s, .inl ⟨forL_nil (hk _ _ h0), h0⟩⟩
  | cons w ws ih =>
    obtain ⟨s1, s2, a, bc⟩ := step 0 s w rfl h0
    rcases bc with ⟨b, c⟩ | ⟨r, b, c⟩
    · obtain ⟨s', d⟩ := ih (n0 + 1) (fun n s w hw hI => by
        have := step (n + 1) s w hw (by rw [show n0 + (n + 1) = n0 + 1 + n by omega]; exact hI)
        rw [show n0 + (n + 1) + 1 = n0 + 1 + n + 1 by omega] at this
        exact this) c
      rcases d with ⟨d, e⟩ | ⟨r, d, e⟩
      · refine ⟨s', .inl ⟨forL_cons (hk _ _ h0) a b d, ?_⟩⟩
        rw [List.length_cons, show n0 + (ws.length + 1) = n0 + 1 + ws.length by omega]
        exact e
      · exact ⟨s', .inr ⟨r, forL_cons (hk _ _ h0) a b d, e⟩⟩
    · exact ⟨s2, .inr ⟨r, forL_rt (hk _ _ h0) a b, c⟩⟩
/-- a call, by its body's run -/
theorem call_rt {fns : List Fn} {k j ps n : Nat} {B : Call → St} {ws : List W} {h : List O} {ρ : List E0} {r : R} {st : S} {res : Res2} (e : fns[j]? = some ⟨ps, n, B⟩) (hl : ws.length = ps) (hρ : ws.map E0.w ++ List.replicate (n - ps) E0.un = ρ)
    (hB : B (callF fns k) ⟨ρ, h⟩ = .rt r st) (ho : outF (.rt r st) = res) : callF fns (k + 1) j ws h = res := by
  show (match fns[j]? with
    | some F => if ws.length = F.ps then outF (F.body (callF fns k) ⟨ws.map E0.w ++ List.replicate (F.n - F.ps) E0.un, h⟩) else Res2.bad
    | none => Res2.bad) = _
  rw [e]
  show (if ws.length = ps then outF (B (callF fns k) ⟨ws.map E0.w ++ List.replicate (n - ps) E0.un, h⟩) else Res2.bad) = _
  rw [if_pos hl, hρ, hB]; exact ho
theorem upto0 (n : Nat) : uptoN 0 n = (List.range n).map fun i : Nat => W.d (.int (i : Int)) := by
  unfold uptoN
  exact List.map_congr_left fun i _ => by rw [Int.zero_add]
theorem itR1_z {a : Ex} {s s1 : S} {m : Int} (h1 : a s = .ok (iR m) s1) (h0 : 0 ≤ m) (h2 : m ≤ 1000000) : itR1 a s = .ok ⟨(List.range m.toNat).map fun i : Nat => W.d (.int (i : Int)), none⟩ s1 := by
  rw [itR1_ev h1 (small_ok (by omega) h2), upto0]
theorem nx_as {p : St} {s s1 s2 : S} (h : p s = .nx s1) (e : s1 = s2) : p s = .nx s2 := by subst e; exact h
theorem rt_as {p : St} {s s1 s2 : S} {r r' : R} (h : p s = .rt r s1) (e : s1 = s2) (e2 : r = r') : p s = .rt r' s2 := by subst e; subst e2; exact h
theorem ok_as {a : Ex} {s s1 s2 : S} {r r' : R} (h : a s = .ok r s1) (e : s1 = s2) (e2 : r = r') : a s = .ok r' s2 := by subst e; subst e2; exact h
theorem pop_slot {s : S} {i : Nat} {ws : List W} {w : W} {v : Int} (e : s.ρ[i]? = some (.own (.lst ws))) (h0 : 0 ≤ v) (hv : v < 9223372036854775808) (h : ws[v.toNat]? = some w) : popV s (.slot i) [.w (.d (.int v))] = some (.w w, ⟨s.ρ.set i (.own (.lst (ws.eraseIdx v.toNat))), s.h⟩) := by
  have l1 : locR s (.slot i) = some (.sl i) := by unfold locR; simp only [e]
  have l2 : getO s (.sl i) = some (.lst ws) := by unfold getO; simp only [e]
  have := (List.getElem?_eq_some_iff.mp h).1
  unfold popV
  simp only [l1, l2]
  rw [if_pos (by omega)]
  simp only [ixN_z h0 (show v < (ws.length : Nat) by omega), h]
  rfl
theorem putz_own {s : S} {i : Nat} {v : Int} {ws : List W} {w : W} (e : s.ρ[i]? = some (.own (.lst ws))) (h0 : 0 ≤ v) (h : v < (ws.length : Nat)) : putV (.slot i) (iR v) w s = some ⟨s.ρ.set i (.own (.lst (ws.set v.toNat w))), s.h⟩ := by
  have l1 : locR s (.slot i) = some (.sl i) := by unfold locR; simp only [e]
  have l2 : getO s (.sl i) = some (.lst ws) := by unfold getO; simp only [e]
  unfold putV
  simp only [l1, l2, ixN_z h0 h, Option.map_some]
  rfl
theorem putz_ref {s : S} {j : Nat} {v : Int} {ws : List W} {w : W} (e : s.h[j]? = some (.lst ws)) (h0 : 0 ≤ v) (h : v < (ws.length : Nat)) : putV (.w (.ref j)) (iR v) w s = some ⟨s.ρ, s.h.set j (.lst (ws.set v.toNat w))⟩ := by
  have l1 : locR s (.w (.ref j)) = some (.hp j) := rfl
  have l2 : getO s (.hp j) = some (.lst ws) := e
  unfold putV
  simp only [l1, l2, ixN_z h0 h, Option.map_some]
  rfl
theorem rep_one {α : Type} {x : α} : ∀ n : Nat, (List.replicate n [x]).flatten = List.replicate n x
  | 0 => rfl
  | n + 1 => by rw [List.replicate_succ, List.flatten_cons, rep_one n]; rfl
theorem mul_one {s : S} {x : W} {n : Nat} (h : n ≤ 1000) : mulV s (.new (.lst [x])) (iR (n : Int)) = some (.new (.lst (List.replicate n x))) := by
  have c : -(2 ^ 63) ≤ (n : Int) ∧ (n : Int) < 2 ^ 63 ∧ [x].length * (n : Int).toNat ≤ LN := by
    refine ⟨by omega, by omega, Nat.le_trans (m := 1000) ?_ (by decide)⟩
    simp only [List.length_cons, List.length_nil, Int.toNat_natCast]
    omega
  have e : mulV s (.new (.lst [x])) (iR (n : Int)) = if -(2 ^ 63) ≤ (n : Int) ∧ (n : Int) < 2 ^ 63 ∧ [x].length * (n : Int).toNat ≤ LN then some (R.new (.lst (List.replicate (n : Int).toNat [x]).flatten)) else none := rfl
  rw [e, if_pos c, Int.toNat_natCast, rep_one]
theorem mul_tup {s : S} {x : D} {n : Nat} (h : n ≤ 1000) : mulV s (.w (.d (.tup [x]))) (iR (n : Int)) = some (.w (.d (.tup (List.replicate n x)))) := by
  have c : -1000 ≤ (n : Int) ∧ (n : Int) ≤ 1000 ∧ [x].length ≤ 1000 := ⟨by omega, by omega, by simp⟩
  have e : mulV s (.w (.d (.tup [x]))) (iR (n : Int)) = if -1000 ≤ (n : Int) ∧ (n : Int) ≤ 1000 ∧ [x].length ≤ 1000 then some (R.w (.d (.tup (List.replicate (n : Int).toNat [x]).flatten))) else none := rfl
  rw [e, if_pos c, Int.toNat_natCast, rep_one]
theorem tup_map {s : S} {xs : List D} : tupleV s (.new (.lst (xs.map W.d))) = some (.w (.d (.tup xs))) := by
  show some (R.w (mkTup (xs.map W.d))) = _
  rw [mkTup_map]
theorem str_v {s : S} {i : Int} (h : i.natAbs.log2 < 1920) : strV s (iR i) = some (.w (.d (.str ((toString i).toList.map Char.toNat)))) := by
  show (if i.natAbs.log2 < 1920 then some (R.w (.d (.str ((toString i).toList.map Char.toNat)))) else none) = _
  rw [if_pos h]
theorem isi_ref {s : S} {j : Nat} {T : Ty} {ws : List W} (e : s.h[j]? = some (.lst ws)) : isiV T s (.w (.ref j)) = some (bR (isiB .lst T)) := by
  show (tyR s (.w (.ref j))).map _ = _
  have : tyR s (.w (.ref j)) = some .lst := by
    show (match objR s (.w (.ref j)) with
      | some (.lst _) => some Ty.lst
      | some (.dct _ _) => some .dct
      | _ => none) = _
    rw [show objR s (.w (.ref j)) = some (.lst ws) from e]
  rw [this]; rfl
theorem cut_len {α : Type} {xs : List α} {lo hi : Option Int} : (cut xs lo hi).length ≤ xs.length := by
  unfold cut
  rw [List.length_take, List.length_drop]; omega
theorem add_tup {s : S} {a b : List D} (h : a.length + b.length ≤ 1000000) : addV s (.w (.d (.tup a))) (.w (.d (.tup b))) = some (.w (.d (.tup (a ++ b)))) := by
  show (if a.length + b.length ≤ LN then some (R.w (.d (.tup (a ++ b)))) else none) = _
  rw [if_pos (Nat.le_trans h (by decide))]
/-- a comprehension over data, item by item -/
theorem lcA {α : Type} {e : Ex} {ρ : List E0} {i : Nat} {h : List O} (it : α → W) (f : α → D) (hi : i < ρ.length) (xs : List α) (he : ∀ x ∈ xs, e ⟨ρ.set i (.w (it x)), h⟩ = .ok (.w (.d (f x))) ⟨ρ.set i (.w (it x)), h⟩) :
    ∀ (acc : List W) (e0 : E0), e0.free = true → acc.length + xs.length ≤ LN → ∃ e1, e1.free = true ∧ lcL none (tgV i) yesT e [i] (xs.map it) acc ⟨ρ.set i e0, h⟩ = some (acc ++ (xs.map f).map W.d, ⟨ρ.set i e1, h⟩) := by
  induction xs with
  | nil =>
    intro acc e0 h0 hl
    refine ⟨e0, h0, ?_⟩
    show (if (kept _ none && frees [i] _) = true then _ else _) = _
    rw [if_pos (by simp [kept, frees, List.getD_eq_getElem?_getD, List.getElem?_set_self hi, h0])]
    simp
  | cons x xs ih =>
    intro acc e0 h0 hl
    simp only [List.length_cons] at hl
    obtain ⟨e1, h1, E⟩ := ih (fun y hy => he y (List.mem_cons_of_mem _ hy)) (acc ++ [.d (f x)]) (.w (it x)) rfl (by rw [List.length_append]; simp only [List.length_cons, List.length_nil]; omega)
    refine ⟨e1, h1, ?_⟩
    show lcL none (tgV i) yesT e [i] (it x :: xs.map it) acc ⟨ρ.set i e0, h⟩ = _
    unfold lcL
    rw [if_pos (by simp [kept, frees, List.getD_eq_getElem?_getD, List.getElem?_set_self hi, h0])]
    have a1 : tgV i (.w (it x)) ⟨wipe [i] (ρ.set i e0), h⟩ = some ⟨ρ.set i (.w (it x)), h⟩ := by
      show (if i < ((ρ.set i e0).set i .un).length then some (⟨((ρ.set i e0).set i .un).set i (.w (it x)), h⟩ : S) else none) = _
      rw [if_pos (by simpa using hi), List.set_set, List.set_set]
    rw [a1]
    show (match e ⟨ρ.set i (.w (it x)), h⟩ with
        | .ok r s3 => (match boxR r s3 with
          | some (y, s4) => if acc.length < LN then lcL none (tgV i) yesT e [i] (xs.map it) (acc ++ [y]) s4 else none
          | none => none)
        | _ => none) = _
    rw [he x List.mem_cons_self]
    show (if acc.length < LN then lcL none (tgV i) yesT e [i] (xs.map it) (acc ++ [.d (f x)]) ⟨ρ.set i (.w (it x)), h⟩ else none) = _
    rw [if_pos (by omega), E, List.append_assoc]
    rfl
/-- .. of whole numbers -/
theorem lcI {e : Ex} {ρ : List E0} {i : Nat} {h : List O} {e0 : E0} (f : Int → D) (hi : i < ρ.length) (hg : ρ[i]? = some e0) (h0 : e0.free = true) (ps : List Int) (hl : ps.length ≤ LN) (he : ∀ p ∈ ps, e ⟨ρ.set i (.w (.d (.int p))), h⟩ = .ok (.w (.d (f p))) ⟨ρ.set i (.w (.d (.int p))), h⟩) :
    ∃ e1, lcL none (tgV i) yesT e [i] ((ps.map D.int).map W.d) [] ⟨ρ, h⟩ = some ((ps.map f).map W.d, ⟨ρ.set i e1, h⟩) := by
  obtain ⟨e1, _, E⟩ := lcA (fun p : Int => W.d (.int p)) f hi ps he [] e0 h0 (by simpa using hl)
  have e2 : ρ.set i e0 = ρ := by
    apply List.ext_getElem?
    intro j
    by_cases z : i = j
    · subst z; rw [List.getElem?_set_self hi, hg]
    · rw [List.getElem?_set_ne z]
  rw [e2, List.nil_append] at E
  rw [List.map_map]
  exact ⟨e1, E⟩
theorem call_ex {fns : List Fn} {k j ps n : Nat} {B : Call → St} {ws : List W} {h : List O} {ρ : List E0} {res : Res2} (e : fns[j]? = some ⟨ps, n, B⟩) (hl : ws.length = ps) (hρ : ws.map E0.w ++ List.replicate (n - ps) E0.un = ρ)
    (hB : ∃ r st, B (callF fns k) ⟨ρ, h⟩ = .rt r st ∧ outF (.rt r st) = res) : callF fns (k + 1) j ws h = res := by
  obtain ⟨r, st, h1, h2⟩ := hB
  exact call_rt e hl hρ h1 h2
theorem eqV_int {s : S} {i j : Int} : eqV s (iR i) (iR j) = some (bR (decide (i = j))) := by
  show some (bR (i == j)) = _
  by_cases q : i = j
  · subst q; simp
  · rw [decide_eq_false q, beq_eq_false_iff_ne.mpr q]
theorem neV_int {s : S} {i j : Int} : neV s (iR i) (iR j) = some (bR (!decide (i = j))) := by
  show some (bR (!(i == j))) = _
  by_cases q : i = j
  · subst q; simp
  · rw [decide_eq_false q, beq_eq_false_iff_ne.mpr q]
theorem ins_slot {s : S} {i : Nat} {ws : List W} {x : W} {v : Int} (h1 : s.ρ[i]? = some (.own (.lst ws))) (h2 : ws.length < LN) (h0 : 0 ≤ v) (hv : v < 9223372036854775808) : insertV s (.slot i) [.w (.d (.int v)), .w x] = some (.w (.d .non), ⟨s.ρ.set i (.own (.lst (ws.take v.toNat ++ [x] ++ ws.drop v.toNat))), s.h⟩) := by
  have l1 : locR s (.slot i) = some (.sl i) := by unfold locR; simp only [h1]
  have l2 : getO s (.sl i) = some (.lst ws) := by unfold getO; simp only [h1]
  unfold insertV
  have b : boxR (.w x) s = some (x, s) := rfl
  simp only [b, l1, l2]
  rw [if_pos ⟨h2, h0, by omega⟩]
  rfl
theorem ex1 {α : Type} {P Q : α → Prop} {a : α} (h : P a) (q : Q a) : ∃ a, P a ∧ Q a := ⟨a, h, q⟩
theorem ex2 {α β : Type} {P Q : α → β → Prop} {a : α} {b : β} (h : P a b) (q : Q a b) : ∃ a b, P a b ∧ Q a b := ⟨a, b, h, q⟩
theorem ex3 {α β γ : Type} {P Q : α → β → γ → Prop} {a : α} {b : β} {c : γ} (h : P a b c) (q : Q a b c) : ∃ a b c, P a b c ∧ Q a b c := ⟨a, b, c, h, q⟩
theorem ex4 {α β γ δ : Type} {P Q : α → β → γ → δ → Prop} {a : α} {b : β} {c : γ} {d : δ} (h : P a b c d) (q : Q a b c d) : ∃ a b c d, P a b c d ∧ Q a b c d := ⟨a, b, c, d, h, q⟩
end Mn

set_option maxHeartbeats 0
namespace HeadT
open Mn
/-- is_integer: thing -/
def B0 (call : Call) : Mn.St := retS (andE (op1 (isiV .int) (vE 0)) (op1 notV (op1 (isiV .bool) (vE 0))))
/-- is_tuple: thing, many -/
def B1 (call : Call) : Mn.St := retS (andE (op1 (isiV .tup) (vE 0)) (op2 eqV (op1 lenV (vE 0)) (vE 1)))
/-- settle: sums, edges, lowered, place, edge, one, other, weight -/
def B2 (call : Call) : Mn.St := seqS (setS 2 (dctE)) (seqS (forS (itEnum (vE 1)) (tgT [tgV 3, tgV 4]) (seqS (unpS (tgT [tgV 5, tgV 6, tgV 7]) (vE 4)) (ifS (andT (tst (op2 isntV (op2 ixV (vE 0) (vE 5)) (kE .non))) (orT (tst (op2 isV (op2 ixV (vE 0) (vE 6)) (kE .non))) (tst (op2 ltV (op2 addV (op2 ixV (vE 0) (vE 5)) (vE 7)) (op2 ixV (vE 0) (vE 6)))))) (seqS (putS (vE 0) (vE 6) (op2 addV (op2 ixV (vE 0) (vE 5)) (vE 7))) (putS (vE 2) (vE 6) (vE 3))) (nxS)))) (retS (vE 2)))
/-- round_through: edges, ahead, number, met, first, found -/
def B3 (call : Call) : Mn.St := seqS (setS 3 (lstE (asN))) (seqS (whileS (tst (op2 (inV true) (vE 2) (vE 3))) (seqS (exprS (meth appendV (vE 3) (asC (vE 2) (asN)))) (setS 2 (op2 ixV (op2 ixV (vE 0) (op2 ixV (vE 1) (vE 2))) (kE (.int 0)))))) (seqS (setS 4 (vE 2)) (seqS (setS 5 (lstE (asC (op2 ixV (vE 1) (vE 2)) (asN)))) (seqS (setS 2 (op2 ixV (op2 ixV (vE 0) (op2 ixV (vE 1) (vE 2))) (kE (.int 0)))) (seqS (whileS (tst (op2 neV (vE 2) (vE 4))) (seqS (exprS (meth appendV (vE 5) (asC (op2 ixV (vE 1) (vE 2)) (asN)))) (setS 2 (op2 ixV (op2 ixV (vE 0) (op2 ixV (vE 1) (vE 2))) (kE (.int 0)))))) (retS (op1 revV (vE 5))))))))
/-- falling_round: many, edges, sums, ahead, lowered, _, number -/
def B4 (call : Call) : Mn.St := seqS (setS 2 (lcE (itR1 (vE 0)) (tgV 5) (yesT) (kE (.int 0)) [5])) (seqS (setS 3 (dctE)) (seqS (setS 4 (dctE)) (seqS (forS (itR1 (op2 addV (vE 0) (kE (.int 1)))) (tgV 5) (seqS (setS 4 (callH call 2 (asC (vE 2) (asC (vE 1) (asN))))) (forD 4 (tgV 6) (putS (vE 3) (vE 6) (op2 ixV (vE 4) (vE 6)))))) (seqS (forD 4 (tgV 6) (retS (callH call 3 (asC (vE 1) (asC (vE 3) (asC (vE 6) (asN))))))) (retS (kE .non))))))
/-- least_ways: many, edges, start, sums, changed, _ -/
def B5 (call : Call) : Mn.St := seqS (setS 3 (lcE (itR1 (vE 0)) (tgV 5) (yesT) (kE .non) [5])) (seqS (putS (vE 3) (vE 2) (kE (.int 0))) (seqS (setS 4 (kE (.bl true))) (seqS (whileS (tst (vE 4)) (setS 4 (op2 gtV (op1 lenV (callH call 2 (asC (vE 3) (asC (vE 1) (asN))))) (kE (.int 0))))) (retS (op1 tupleV (vE 3))))))
/-- is_potentials: many, edges, thing, one, other, weight, number -/
def B6 (call : Call) : Mn.St := seqS (ifS (orT (notT (tst (callH call 1 (asC (vE 2) (asC (vE 0) (asN)))))) (notT (tst (op1 allV (lcE (itE (vE 2)) (tgV 6) (yesT) (callH call 0 (asC (vE 6) (asN))) [6]))))) (retS (kE (.bl false))) (nxS)) (retS (op1 allV (lcE (itE (vE 1)) (tgT [tgV 3, tgV 4, tgV 5]) (yesT) (op2 geV (op2 addV (op2 ixV (vE 2) (vE 3)) (vE 5)) (op2 ixV (vE 2) (vE 4))) [3, 4, 5])))
/-- _law_scale: script, great, mixed, cell, size, leans, place -/
def B7 (call : Call) : Mn.St := seqS (setS 1 (lstE (asN))) (seqS (setS 2 (kE (.int 69019))) (seqS (forS (itE (slE (vE 0) (noO) (someO (kE (.int 51))))) (tgV 3) (seqS (setS 4 (op2 modV (op1 absV (op1 intV (vE 3))) (op2 shlV (kE (.int 1)) (kE (.int 1470))))) (seqS (setS 2 (op2 modV (op1 intV (op2 addV (op2 addV (op2 addV (op2 mulV (vE 2) (kE (.int 22003))) (op2 mulV (op2 modV (vE 4) (kE (.int 1001911))) (kE (.int 89)))) (op1 intV (op2 ltV (op1 intV (vE 3)) (kE (.int 0))))) (kE (.int 62)))) (kE (.int 2147482873)))) (ifS (tst (op2 geV (vE 4) (op2 powV (kE (.int 10)) (kE (.int 18))))) (setS 1 (op2 addV (lstE (asC (vE 4) (asN))) (vE 1))) (nxS))))) (seqS (setS 5 (lstE (asN))) (seqS (forS (itR1 (kE (.int 8))) (tgV 6) (seqS (setS 2 (op2 modV (op1 intV (op2 addV (op2 addV (op2 mulV (vE 2) (kE (.int 8009))) (op2 mulV (kE (.int 229)) (vE 6))) (kE (.int 107)))) (kE (.int 2147482873)))) (exprS (meth appendV (vE 5) (asC (op2 modV (op1 intV (op2 divV (vE 2) (kE (.int 397)))) (kE (.int 80))) (asN)))))) (retS (lstE (asC (vE 1) (asC (vE 2) (asC (kE (.int 4)) (asC (vE 5) (asN)))))))))))
/-- _law_load: scale, place, many, size, lean -/
def B8 (call : Call) : Mn.St := seqS (putS (vE 0) (kE (.int 2)) (op2 addV (op2 ixV (vE 0) (kE (.int 2))) (kE (.int 1)))) (seqS (ifS (tst (op2 ixV (vE 0) (kE (.int 0)))) (seqS (setS 3 (op1 intV (meth popV (op2 ixV (vE 0) (kE (.int 0))) (asN)))) (seqS (ifS (tst (op2 geV (vE 3) (vE 2))) (exprS (meth appendV (op2 ixV (vE 0) (kE (.int 0))) (asC (op2 divV (vE 3) (vE 2)) (asN)))) (nxS)) (retS (op2 modV (vE 3) (vE 2))))) (nxS)) (seqS (putS (vE 0) (kE (.int 1)) (op2 modV (op1 intV (op2 addV (op2 addV (op2 mulV (op2 ixV (vE 0) (kE (.int 1))) (kE (.int 24001))) (op2 mulV (op2 ixV (vE 0) (kE (.int 2))) (kE (.int 167)))) (vE 1))) (kE (.int 2147482873)))) (seqS (setS 4 (op2 ixV (op2 ixV (vE 0) (kE (.int 3))) (vE 1))) (seqS (ifS (tst (op2 ltV (vE 4) (kE (.int 4)))) (retS (kE (.int 0))) (nxS)) (seqS (ifS (tst (op2 ltV (vE 4) (kE (.int 8)))) (retS (op2 subV (vE 2) (kE (.int 1)))) (nxS)) (seqS (ifS (tst (op2 ltV (vE 4) (kE (.int 12)))) (retS (op2 modV (op1 intV (op2 addV (op2 mulV (vE 4) (kE (.int 6))) (kE (.int 1)))) (vE 2))) (nxS)) (retS (op2 modV (op1 intV (op2 divV (op2 ixV (vE 0) (kE (.int 1))) (kE (.int 401)))) (vE 2)))))))))
/-- _law_weight: scale, great, number -/
def B9 (call : Call) : Mn.St := seqS (setS 2 (op2 ixV (tupE (asC (op2 subV (callH call 8 (asC (vE 0) (asC (kE (.int 0)) (asC (kE (.int 9)) (asN))))) (kE (.int 2))) (asC (op2 subV (callH call 8 (asC (vE 0) (asC (kE (.int 1)) (asC (kE (.int 30)) (asN))))) (kE (.int 8))) (asC (kE (.int 0)) (asN))))) (callH call 8 (asC (vE 0) (asC (kE (.int 2)) (asC (kE (.int 3)) (asN))))))) (retS (iteE (tst (vE 1)) (op2 addV (op2 mulV (vE 2) (op2 powV (kE (.int 10)) (kE (.int 40)))) (callH call 8 (asC (vE 0) (asC (kE (.int 3)) (asC (kE (.int 3)) (asN)))))) (vE 2)))
/-- _law_edges: scale, many, rows, great, marks, edges, lap, one, other, spare, k -/
def B10 (call : Call) : Mn.St := seqS (setS 4 (lcE (itR1 (vE 1)) (tgV 10) (yesT) (callH call 9 (asC (vE 0) (asC (vE 3) (asN)))) [10])) (seqS (setS 5 (lstE (asN))) (seqS (forS (itR1 (vE 2)) (tgV 6) (seqS (parS 7 8 (asC (callH call 8 (asC (vE 0) (asC (kE (.int 4)) (asC (vE 1) (asN))))) (asC (callH call 8 (asC (vE 0) (asC (kE (.int 5)) (asC (vE 1) (asN))))) (asN)))) (seqS (setS 9 (op2 ixV (tupE (asC (kE (.int 0)) (asC (kE (.int 0)) (asC (callH call 8 (asC (vE 0) (asC (kE (.int 6)) (asC (kE (.int 7)) (asN))))) (asN))))) (callH call 8 (asC (vE 0) (asC (kE (.int 7)) (asC (kE (.int 3)) (asN))))))) (exprS (meth appendV (vE 5) (asC (tupE (asC (vE 7) (asC (vE 8) (asC (op2 addV (op2 subV (op2 ixV (vE 4) (vE 8)) (op2 ixV (vE 4) (vE 7))) (vE 9)) (asN))))) (asN))))))) (retS (vE 5))))
/-- _law_round: scale, many, great, total, left, row, lap, edges, rest, k, weight -/
def B11 (call : Call) : Mn.St := seqS (setS 4 (op1 lrngV (vE 1))) (seqS (setS 5 (lstE (asN))) (seqS (forS (itR1 (op2 addV (kE (.int 1)) (callH call 8 (asC (vE 0) (asC (kE (.int 4)) (asC (vE 1) (asN))))))) (tgV 6) (exprS (meth appendV (vE 5) (asC (meth popV (vE 4) (asC (callH call 8 (asC (vE 0) (asC (kE (.int 5)) (asC (op1 lenV (vE 4)) (asN))))) (asN))) (asN))))) (seqS (setS 7 (lstE (asN))) (seqS (setS 8 (vE 3)) (seqS (forS (itR1 (op1 lenV (vE 5))) (tgV 9) (seqS (setS 10 (iteE (tst (op2 ltV (op2 addV (vE 9) (kE (.int 1))) (op1 lenV (vE 5)))) (callH call 9 (asC (vE 0) (asC (vE 2) (asN)))) (vE 8))) (seqS (setS 8 (op2 subV (vE 8) (vE 10))) (exprS (meth appendV (vE 7) (asC (tupE (asC (op2 ixV (vE 5) (vE 9)) (asC (op2 ixV (vE 5) (op2 modV (op1 intV (op2 addV (vE 9) (kE (.int 1)))) (op1 lenV (vE 5)))) (asC (vE 10) (asN))))) (asN))))))) (retS (vE 7)))))))
/-- _law_settled: many, edges, begins, least, lap, moved, one, other, weight -/
def B12 (call : Call) : Mn.St := seqS (setS 3 (op1 listV (vE 2))) (seqS (forS (itR1 (op2 addV (vE 0) (kE (.int 1)))) (tgV 4) (seqS (setS 5 (kE (.bl false))) (seqS (forS (itE (vE 1)) (tgT [tgV 6, tgV 7, tgV 8]) (ifS (andT (tst (op2 isntV (op2 ixV (vE 3) (vE 6)) (kE .non))) (orT (tst (op2 isV (op2 ixV (vE 3) (vE 7)) (kE .non))) (tst (op2 ltV (op2 addV (op2 ixV (vE 3) (vE 6)) (vE 8)) (op2 ixV (vE 3) (vE 7)))))) (seqS (putS (vE 3) (vE 7) (op2 addV (op2 ixV (vE 3) (vE 6)) (vE 8))) (setS 5 (kE (.bl true)))) (nxS))) (ifS (notT (tst (vE 5))) (retS (op1 tupleV (vE 3))) (nxS))))) (retS (kE .non)))
/-- _law_is_falling: edges, thing, k, at -/
def B13 (call : Call) : Mn.St := seqS (ifS (orT (notT (tst (op1 (isiV .tup) (vE 1)))) (orT (tst (op2 eqV (op1 lenV (vE 1)) (kE (.int 0)))) (tst (op2 gtV (op1 lenV (vE 1)) (op1 lenV (vE 0)))))) (retS (kE (.bl false))) (nxS)) (seqS (ifS (tst (op2 gtV (op1 lenV (lcE (itE (vE 1)) (tgV 3) (orT (notT (tst (op1 (isiV .int) (vE 3)))) (orT (tst (op1 (isiV .bool) (vE 3))) (notT (tst (chE leV ltV (kE (.int 0)) (vE 3) (op1 lenV (vE 0))))))) (vE 3) [3])) (kE (.int 0)))) (retS (kE (.bl false))) (nxS)) (seqS (ifS (tst (op2 ltV (op1 lsetV (vE 1)) (op1 lenV (vE 1)))) (retS (kE (.bl false))) (nxS)) (seqS (forS (itR1 (op1 lenV (vE 1))) (tgV 2) (ifS (tst (op2 neV (op2 ixV (op2 ixV (vE 0) (op2 ixV (vE 1) (op2 subV (vE 2) (kE (.int 1))))) (kE (.int 1))) (op2 ixV (op2 ixV (vE 0) (op2 ixV (vE 1) (vE 2))) (kE (.int 0))))) (retS (kE (.bl false))) (nxS))) (retS (op2 ltV (op1 sumV (lcE (itE (vE 1)) (tgV 3) (yesT) (op2 ixV (op2 ixV (vE 0) (vE 3)) (kE (.int 2))) [3])) (kE (.int 0)))))))
/-- _law_are_potentials: many, edges, thing, one, other, weight -/
def B14 (call : Call) : Mn.St := seqS (ifS (orT (notT (tst (op1 (isiV .tup) (vE 2)))) (tst (op2 neV (op1 lenV (vE 2)) (vE 0)))) (retS (kE (.bl false))) (nxS)) (seqS (ifS (tst (op2 gtV (op1 lenV (lcE (itE (vE 2)) (tgV 3) (orT (notT (tst (op1 (isiV .int) (vE 3)))) (tst (op1 (isiV .bool) (vE 3)))) (vE 3) [3])) (kE (.int 0)))) (retS (kE (.bl false))) (nxS)) (retS (op2 eqV (op1 lenV (lcE (itE (vE 1)) (tgT [tgV 3, tgV 4, tgV 5]) (tst (op2 ltV (op2 addV (vE 5) (op2 ixV (vE 2) (vE 3))) (op2 ixV (vE 2) (vE 4)))) (kE (.int 1)) [3, 4, 5])) (kE (.int 0)))))
/-- _law_same: told, due, k -/
def B15 (call : Call) : Mn.St := seqS (ifS (orT (notT (tst (op1 (isiV .tup) (vE 0)))) (tst (op2 neV (op1 lenV (vE 0)) (op1 lenV (vE 1))))) (retS (kE (.bl false))) (nxS)) (seqS (forS (itR1 (op1 lenV (vE 1))) (tgV 2) (ifS (tst (op2 isV (op2 ixV (vE 1) (vE 2)) (kE .non))) (ifS (tst (op2 isntV (op2 ixV (vE 0) (vE 2)) (kE .non))) (retS (kE (.bl false))) (nxS)) (ifS (orT (notT (tst (op1 (isiV .int) (op2 ixV (vE 0) (vE 2))))) (orT (tst (op1 (isiV .bool) (op2 ixV (vE 0) (vE 2)))) (tst (op2 neV (op2 ixV (vE 0) (vE 2)) (op2 ixV (vE 1) (vE 2)))))) (retS (kE (.bl false))) (nxS)))) (retS (kE (.bl true))))
/-- _law_bool: told, due -/
def B16 (call : Call) : Mn.St := retS (andE (op1 (isiV .bool) (vE 0)) (op2 eqV (vE 0) (vE 1)))
/-- _law_asked: scale, many, edges, counts, settled, told, base, starts, start, begins, at, things, odd, thing, one, other, back, more, falls, longer, k -/
def B17 (call : Call) : Mn.St := seqS (setS 4 (callH call 12 (asC (vE 1) (asC (vE 2) (asC (op2 mulV (lstE (asC (kE (.int 0)) (asN))) (vE 1)) (asN)))))) (seqS (putS (vE 3) (op1 intV (op2 isV (vE 4) (kE .non))) (op2 addV (op2 ixV (vE 3) (op1 intV (op2 isV (vE 4) (kE .non)))) (kE (.int 1)))) (seqS (setS 5 (callH call 4 (asC (vE 1) (asC (vE 2) (asN))))) (seqS (ifS (tst (op2 isV (vE 4) (kE .non))) (seqS (ifS (notT (tst (callH call 13 (asC (vE 2) (asC (vE 5) (asN)))))) (retS (kE (.bl false))) (nxS)) (seqS (setS 6 (op1 tupleV (lcE (itR1 (vE 1)) (tgV 20) (yesT) (op2 subV (callH call 8 (asC (vE 0) (asC (kE (.int 6)) (asC (kE (.int 9)) (asN))))) (kE (.int 4))) [20]))) (retS (andE (callH call 16 (asC (callH call 6 (asC (vE 1) (asC (vE 2) (asC (vE 6) (asN))))) (asC (kE (.bl false)) (asN)))) (callH call 16 (asC (callH call 6 (asC (vE 1) (asC (vE 2) (asC (op2 mulV (tupE (asC (kE (.int 0)) (asN))) (vE 1)) (asN))))) (asC (kE (.bl false)) (asN)))))))) (nxS)) (seqS (ifS (orT (tst (op2 isntV (vE 5) (kE .non))) (notT (tst (callH call 16 (asC (callH call 6 (asC (vE 1) (asC (vE 2) (asC (vE 4) (asN))))) (asC (kE (.bl true)) (asN))))))) (retS (kE (.bl false))) (nxS)) (seqS (setS 7 (lstE (asC (kE (.int 0)) (asC (op2 subV (vE 1) (kE (.int 1))) (asC (callH call 8 (asC (vE 0) (asC (kE (.int 4)) (asC (vE 1) (asN))))) (asN)))))) (seqS (forS (itE (vE 7)) (tgV 8) (seqS (setS 9 (op2 mulV (lstE (asC (kE .non) (asN))) (vE 1))) (seqS (putS (vE 9) (vE 8) (kE (.int 0))) (ifS (notT (tst (callH call 15 (asC (callH call 5 (asC (vE 1) (asC (vE 2) (asC (vE 8) (asN))))) (asC (callH call 12 (asC (vE 1) (asC (vE 2) (asC (vE 9) (asN))))) (asN)))))) (retS (kE (.bl false))) (nxS))))) (seqS (setS 10 (callH call 8 (asC (vE 0) (asC (kE (.int 5)) (asC (vE 1) (asN)))))) (seqS (setS 11 (lstE (asC (op1 tupleV (lcE (itE (vE 4)) (tgV 14) (yesT) (op2 addV (vE 14) (op2 powV (kE (.int 10)) (kE (.int 50)))) [14])) (asC (op1 tupleV (lcE (itE (vE 4)) (tgV 14) (yesT) (op2 subV (kE (.int 0)) (vE 14)) [14])) (asC (op2 mulV (tupE (asC (kE (.int 0)) (asN))) (vE 1)) (asC (op1 listV (vE 4)) (asC (slE (vE 4) (noO) (someO (op1 negV (kE (.int 1))))) (asC (op2 addV (vE 4) (tupE (asC (kE (.int 0)) (asN)))) (asC (kE .non) (asC (kE (.int 7)) (asC (kE (.str [48])) (asC (op1 tupleV (lcE (itE (vE 4)) (tgV 14) (yesT) (op2 eqV (vE 14) (kE (.int 0))) [14])) (asC (tupE (asC (vE 4) (asN))) (asN)))))))))))))) (seqS (forS (itE (tupE (asC (op2 addV (op2 ixV (vE 4) (vE 10)) (kE (.int 1))) (asC (op2 subV (op2 ixV (vE 4) (vE 10)) (kE (.int 1))) (asC (op2 subV (op2 ixV (vE 4) (vE 10)) (op2 powV (kE (.int 10)) (kE (.int 45)))) (asC (kE .non) (asC (op1 strV (op2 ixV (vE 4) (vE 10))) (asC (tupE (asC (op2 ixV (vE 4) (vE 10)) (asN))) (asC (kE (.bl true)) (asC (kE (.bl false)) (asN))))))))))) (tgV 12) (exprS (meth appendV (vE 11) (asC (op2 addV (op2 addV (slE (vE 4) (noO) (someO (vE 10))) (tupE (asC (vE 12) (asN)))) (slE (vE 4) (someO (op2 addV (vE 10) (kE (.int 1)))) (noO))) (asN))))) (seqS (forS (itE (vE 11)) (tgV 13) (ifS (notT (tst (callH call 16 (asC (callH call 6 (asC (vE 1) (asC (vE 2) (asC (vE 13) (asN))))) (asC (callH call 14 (asC (vE 1) (asC (vE 2) (asC (vE 13) (asN))))) (asN)))))) (retS (kE (.bl false))) (nxS))) (seqS (parS 14 15 (asC (callH call 8 (asC (vE 0) (asC (kE (.int 6)) (asC (vE 1) (asN))))) (asC (callH call 8 (asC (vE 0) (asC (kE (.int 7)) (asC (vE 1) (asN))))) (asN)))) (seqS (setS 9 (op2 mulV (lstE (asC (kE .non) (asN))) (vE 1))) (seqS (putS (vE 9) (vE 14) (kE (.int 0))) (seqS (setS 16 (op2 ixV (callH call 12 (asC (vE 1) (asC (vE 2) (asC (vE 9) (asN))))) (vE 15))) (seqS (ifS (tst (op2 isV (vE 16) (kE .non))) (retS (kE (.bl true))) (nxS)) (seqS (forS (itE (tupE (asC (tupE (asC (kE (.int 0)) (asC (kE (.bl false)) (asN)))) (asC (tupE (asC (op1 negV (kE (.int 1))) (asC (kE (.bl true)) (asN)))) (asN))))) (tgT [tgV 17, tgV 18]) (seqS (setS 19 (op2 addV (vE 2) (tupE (asC (tupE (asC (vE 15) (asC (vE 14) (asC (op2 subV (vE 17) (vE 16)) (asN))))) (asN))))) (seqS (setS 5 (callH call 4 (asC (vE 1) (asC (vE 19) (asN))))) (ifS (orT (tst (op2 neV (vE 18) (op2 isntV (vE 5) (kE .non)))) (andT (tst (vE 18)) (notT (tst (callH call 13 (asC (vE 19) (asC (vE 5) (asN)))))))) (retS (kE (.bl false))) (nxS))))) (retS (kE (.bl true)))))))))))))))))))
/-- _law_by_hand: told, rows, one, due, looks, many, edges, thing -/
def B18 (call : Call) : Mn.St := seqS (setS 0 (tupE (asC (callH call 4 (asC (kE (.int 2)) (asC (tupE (asC (tupE (asC (kE (.int 0)) (asC (kE (.int 1)) (asC (kE (.int 1)) (asN))))) (asC (tupE (asC (kE (.int 1)) (asC (kE (.int 0)) (asC (op1 negV (kE (.int 2))) (asN))))) (asN)))) (asN)))) (asC (callHK call 4 [1, 0] (asC (tupE (asC (tupE (asC (kE (.int 0)) (asC (kE (.int 0)) (asC (op1 negV (kE (.int 1))) (asN))))) (asN))) (asC (kE (.int 1)) (asN)))) (asC (callH call 4 (asC (kE (.int 3)) (asC (tupE (asC (tupE (asC (kE (.int 2)) (asC (kE (.int 1)) (asC (op1 negV (kE (.int 3))) (asN))))) (asC (tupE (asC (kE (.int 0)) (asC (kE (.int 1)) (asC (kE (.int 5)) (asN))))) (asC (tupE (asC (kE (.int 1)) (asC (kE (.int 2)) (asC (kE (.int 2)) (asN))))) (asN))))) (asN)))) (asN)))))) (seqS (ifS (orT (tst (op2 (inDV true) (op2 ixV (vE 0) (kE (.int 0))) (tupE (asC (tupE (asC (kE (.int 0)) (asC (kE (.int 1)) (asN)))) (asC (tupE (asC (kE (.int 1)) (asC (kE (.int 0)) (asN)))) (asN)))))) (orT (tst (op2 neV (op2 ixV (vE 0) (kE (.int 1))) (tupE (asC (kE (.int 0)) (asN))))) (tst (op2 (inDV true) (op2 ixV (vE 0) (kE (.int 2))) (tupE (asC (tupE (asC (kE (.int 0)) (asC (kE (.int 2)) (asN)))) (asC (tupE (asC (kE (.int 2)) (asC (kE (.int 0)) (asN)))) (asN)))))))) (retS (kE (.bl false))) (nxS)) (seqS (ifS (orT (tst (op2 isntV (callH call 4 (asC (kE (.int 1)) (asC (tupE (asN)) (asN)))) (kE .non))) (orT (tst (op2 isntV (callH call 4 (asC (kE (.int 3)) (asC (tupE (asC (tupE (asC (kE (.int 0)) (asC (kE (.int 1)) (asC (op1 negV (kE (.int 9))) (asN))))) (asC (tupE (asC (kE (.int 1)) (asC (kE (.int 2)) (asC (op1 negV (kE (.int 9))) (asN))))) (asN)))) (asN)))) (kE .non))) (tst (op2 isntV (callH call 4 (asC (kE (.int 2)) (asC (tupE (asC (tupE (asC (kE (.int 0)) (asC (kE (.int 1)) (asC (op1 negV (kE (.int 2))) (asN))))) (asC (tupE (asC (kE (.int 1)) (asC (kE (.int 0)) (asC (kE (.int 2)) (asN))))) (asC (tupE (asC (kE (.int 0)) (asC (kE (.int 0)) (asC (kE (.int 0)) (asN))))) (asN))))) (asN)))) (kE .non))))) (retS (kE (.bl false))) (nxS)) (seqS (setS 1 (tupE (asC (tupE (asC (callH call 5 (asC (kE (.int 3)) (asC (tupE (asC (tupE (asC (kE (.int 0)) (asC (kE (.int 1)) (asC (kE (.int 1)) (asN))))) (asC (tupE (asC (kE (.int 0)) (asC (kE (.int 1)) (asC (op1 negV (kE (.int 2))) (asN))))) (asN)))) (asC (kE (.int 0)) (asN))))) (asC (tupE (asC (kE (.int 0)) (asC (op1 negV (kE (.int 2))) (asC (kE .non) (asN))))) (asN)))) (asC (tupE (asC (callHK call 5 [2, 1, 0] (asC (kE (.int 1)) (asC (tupE (asC (tupE (asC (kE (.int 0)) (asC (kE (.int 1)) (asC (kE (.int 1)) (asN))))) (asN))) (asC (kE (.int 2)) (asN))))) (asC (tupE (asC (kE .non) (asC (kE (.int 0)) (asN)))) (asN)))) (asC (tupE (asC (callH call 5 (asC (kE (.int 1)) (asC (tupE (asN)) (asC (kE (.int 0)) (asN))))) (asC (tupE (asC (kE (.int 0)) (asN))) (asN)))) (asC (tupE (asC (callH call 5 (asC (kE (.int 2)) (asC (tupE (asC (tupE (asC (kE (.int 0)) (asC (kE (.int 0)) (asC (kE (.int 5)) (asN))))) (asC (tupE (asC (kE (.int 0)) (asC (kE (.int 1)) (asC (kE (.int 7)) (asN))))) (asC (tupE (asC (kE (.int 1)) (asC (kE (.int 0)) (asC (op1 negV (kE (.int 7))) (asN))))) (asN))))) (asC (kE (.int 1)) (asN))))) (asC (tupE (asC (op1 negV (kE (.int 7))) (asC (kE (.int 0)) (asN)))) (asN)))) (asC (tupE (asC (callH call 5 (asC (kE (.int 4)) (asC (tupE (asC (tupE (asC (kE (.int 0)) (asC (kE (.int 1)) (asC (kE (.int 1)) (asN))))) (asC (tupE (asC (kE (.int 1)) (asC (kE (.int 2)) (asC (op1 negV (kE (.int 5))) (asN))))) (asC (tupE (asC (kE (.int 0)) (asC (kE (.int 2)) (asC (op1 negV (kE (.int 3))) (asN))))) (asC (tupE (asC (kE (.int 2)) (asC (kE (.int 3)) (asC (kE (.int 0)) (asN))))) (asC (tupE (asC (kE (.int 3)) (asC (kE (.int 1)) (asC (kE (.int 5)) (asN))))) (asN))))))) (asC (kE (.int 0)) (asN))))) (asC (tupE (asC (kE (.int 0)) (asC (kE (.int 1)) (asC (op1 negV (kE (.int 4))) (asC (op1 negV (kE (.int 4))) (asN)))))) (asN)))) (asN)))))))) (seqS (forS (itE (vE 1)) (tgT [tgV 2, tgV 3]) (ifS (notT (tst (callH call 15 (asC (vE 2) (asC (vE 3) (asN)))))) (retS (kE (.bl false))) (nxS))) (seqS (setS 4 (tupE (asC (tupE (asC (kE (.int 2)) (asC (tupE (asC (tupE (asC (kE (.int 0)) (asC (kE (.int 1)) (asC (kE (.int 1)) (asN))))) (asC (tupE (asC (kE (.int 1)) (asC (kE (.int 0)) (asC (op1 negV (kE (.int 1))) (asN))))) (asN)))) (asC (tupE (asC (kE (.int 0)) (asC (kE (.int 1)) (asN)))) (asC (kE (.bl true)) (asN)))))) (asC (tupE (asC (kE (.int 2)) (asC (tupE (asC (tupE (asC (kE (.int 0)) (asC (kE (.int 1)) (asC (kE (.int 1)) (asN))))) (asC (tupE (asC (kE (.int 1)) (asC (kE (.int 0)) (asC (op1 negV (kE (.int 1))) (asN))))) (asN)))) (asC (tupE (asC (kE (.int 0)) (asC (kE (.int 2)) (asN)))) (asC (kE (.bl false)) (asN)))))) (asC (tupE (asC (kE (.int 2)) (asC (tupE (asC (tupE (asC (kE (.int 0)) (asC (kE (.int 1)) (asC (kE (.int 1)) (asN))))) (asC (tupE (asC (kE (.int 1)) (asC (kE (.int 0)) (asC (op1 negV (kE (.int 1))) (asN))))) (asN)))) (asC (tupE (asC (kE (.int 1)) (asC (kE (.int 1)) (asN)))) (asC (kE (.bl false)) (asN)))))) (asC (tupE (asC (kE (.int 1)) (asC (tupE (asC (tupE (asC (kE (.int 0)) (asC (kE (.int 0)) (asC (op1 negV (kE (.int 1))) (asN))))) (asN))) (asC (tupE (asC (kE (.int 5)) (asN))) (asC (kE (.bl false)) (asN)))))) (asC (tupE (asC (kE (.int 1)) (asC (tupE (asC (tupE (asC (kE (.int 0)) (asC (kE (.int 0)) (asC (kE (.int 0)) (asN))))) (asN))) (asC (tupE (asC (kE (.int 5)) (asN))) (asC (kE (.bl true)) (asN)))))) (asC (tupE (asC (kE (.int 2)) (asC (tupE (asN)) (asC (tupE (asC (kE (.int 0)) (asC (kE (.bl true)) (asN)))) (asC (kE (.bl false)) (asN)))))) (asC (tupE (asC (kE (.int 2)) (asC (tupE (asN)) (asC (tupE (asC (kE (.int 0)) (asC (op1 negV (kE (.int 9))) (asN)))) (asC (kE (.bl true)) (asN)))))) (asC (tupE (asC (kE (.int 2)) (asC (tupE (asN)) (asC (lstE (asC (kE (.int 0)) (asC (kE (.int 1)) (asN)))) (asC (kE (.bl false)) (asN)))))) (asN))))))))))) (seqS (forS (itE (vE 4)) (tgT [tgV 5, tgV 6, tgV 7, tgV 3]) (ifS (orT (notT (tst (callH call 16 (asC (callH call 6 (asC (vE 5) (asC (vE 6) (asC (vE 7) (asN))))) (asC (vE 3) (asN)))))) (notT (tst (callH call 16 (asC (callHK call 6 [1, 2, 0] (asC (vE 7) (asC (vE 5) (asC (vE 6) (asN))))) (asC (vE 3) (asN))))))) (retS (kE (.bl false))) (nxS))) (retS (kE (.bl true)))))))))
/-- law: script, scale, wide, counts, lap, many, great, edges, one -/
def B19 (call : Call) : Mn.St := seqS (setS 1 (callE call 7 (asC (vE 0) (asN)))) (seqS (setS 2 (op2 eqV (callH call 8 (asC (vE 1) (asC (kE (.int 2)) (asC (kE (.int 7)) (asN))))) (kE (.int 3)))) (seqS (ifS (notT (tst (callH call 18 asN))) (retS (kE (.bl false))) (nxS)) (seqS (setS 3 (lstE (asC (kE (.int 0)) (asC (kE (.int 0)) (asN))))) (seqS (forS (itR1 (op2 addV (kE (.int 5)) (op1 intV (vE 2)))) (tgV 4) (seqS (setS 5 (iteE (tst (op2 eqV (vE 4) (kE (.int 5)))) (kE (.int 30)) (op2 addV (kE (.int 1)) (callH call 8 (asC (vE 1) (asC (kE (.int 1)) (asC (kE (.int 7)) (asN)))))))) (seqS (setS 6 (op2 eqV (callH call 8 (asC (vE 1) (asC (kE (.int 3)) (asC (kE (.int 5)) (asN))))) (kE (.int 2)))) (seqS (setS 7 (callH call 10 (asC (vE 1) (asC (vE 5) (asC (iteE (tst (op2 eqV (vE 4) (kE (.int 5)))) (kE (.int 60)) (callH call 8 (asC (vE 1) (asC (kE (.int 0)) (asC (kE (.int 12)) (asN)))))) (asC (vE 6) (asN))))))) (seqS (ifS (tst (op2 neV (vE 4) (kE (.int 1)))) (forS (itE (callH call 11 (asC (vE 1) (asC (vE 5) (asC (vE 6) (asC (op2 ixV (tupE (asC (kE (.int 0)) (asC (op1 negV (kE (.int 1))) (asC (kE (.int 0)) (asC (kE (.int 1)) (asC (op1 negV (kE (.int 1))) (asC (op1 negV (kE (.int 1))) (asN)))))))) (vE 4)) (asN))))))) (tgV 8) (exprS (meth insertV (vE 7) (asC (callH call 8 (asC (vE 1) (asC (kE (.int 7)) (asC (op2 addV (op1 lenV (vE 7)) (kE (.int 1))) (asN))))) (asC (vE 8) (asN)))))) (nxS)) (ifS (notT (tst (callH call 17 (asC (vE 1) (asC (vE 5) (asC (op1 tupleV (vE 7)) (asC (vE 3) (asN)))))))) (retS (kE (.bl false))) (nxS))))))) (retS (andE (op2 gtV (op2 ixV (vE 3) (kE (.int 0))) (kE (.int 0))) (op2 gtV (op2 ixV (vE 3) (kE (.int 1))) (kE (.int 0)))))))))
def fns : List Fn := [⟨1, 1, B0⟩, ⟨2, 2, B1⟩, ⟨2, 8, B2⟩, ⟨3, 6, B3⟩, ⟨2, 7, B4⟩, ⟨3, 6, B5⟩, ⟨3, 7, B6⟩, ⟨1, 7, B7⟩, ⟨3, 5, B8⟩, ⟨2, 3, B9⟩, ⟨4, 11, B10⟩, ⟨4, 11, B11⟩, ⟨3, 9, B12⟩, ⟨2, 4, B13⟩, ⟨3, 6, B14⟩, ⟨2, 3, B15⟩, ⟨2, 2, B16⟩, ⟨4, 21, B17⟩, ⟨0, 8, B18⟩, ⟨1, 9, B19⟩]

end HeadT
set_option linter.all false
set_option maxRecDepth 100000
set_option maxHeartbeats 1000000
namespace HeadT
open Mn BF
theorem call_s (k j : Nat) (F : Fn) (ws : List W) (h : List O) (e : fns[j]? = some F) (hl : ws.length = F.ps) : callF fns (k + 1) j ws h = outF (F.body (callF fns k) ⟨ws.map E0.w ++ List.replicate (F.n - F.ps) E0.un, h⟩) := by
  show (match fns[j]? with
    | some F => if ws.length = F.ps then outF (F.body (callF fns k) ⟨ws.map E0.w ++ List.replicate (F.n - F.ps) E0.un, h⟩) else .bad
    | none => .bad) = _
  rw [e]
  simp only [hl, if_true]
def isInt : D → Bool
  | .int _ => true
  | _ => false
theorem sp0 (k : Nat) (x : D) (h : List O) : callF fns (k + 1) 0 [.d x] h = .ok (bR (isInt x)) h := by
  cases x <;> rfl
def oD : Option Int → W
  | none => .d .non
  | some a => .d (.int a)
def eD (e : Ed) : D := .tup [.int e.1, .int e.2.1, .int e.2.2]
theorem ixN_nat {n u : Nat} (h : u < n) : ixN n (u : Int) = some u := by
  unfold ixN
  rw [if_pos (by omega), if_pos (by omega)]
  simp
theorem ix_ref {s : S} {j u : Nat} {ws : List W} {w : W} (e : s.h[j]? = some (.lst ws)) (h : ws[u]? = some w) : ixV s (.w (.ref j)) (iR (u : Int)) = some (.w w) := by
  have e1 : objR s (.w (.ref j)) = some (.lst ws) := e
  have hu : u < ws.length := (List.getElem?_eq_some_iff.mp h).1
  show (match objR s (.w (.ref j)) with
    | some (.dct _ kvs) => if D.isKey (.int u) then (look kvs (.int u)).map R.w else none
    | _ => ixSeq s (.w (.ref j)) u) = _
  rw [e1]
  show (match seqR s (.w (.ref j)) with
    | some p => (atI p.2 (u : Int)).map R.w
    | none => none) = _
  have e2 : seqR s (.w (.ref j)) = some (true, ws) := by
    show (match objR s (.w (.ref j)) with
      | some (.lst ws) => some (true, ws)
      | _ => none) = _
    rw [e1]
  rw [e2]
  show (atI ws (u : Int)).map R.w = _
  unfold atI
  rw [ixN_nat hu]
  simp only [h]
  rfl
theorem put_ref {s : S} {j u : Nat} {ws : List W} {w : W} (e : s.h[j]? = some (.lst ws)) (h : u < ws.length) : putV (.w (.ref j)) (iR (u : Int)) w s = some ⟨s.ρ, s.h.set j (.lst (ws.set u w))⟩ := by
  show (match getO s (.hp j) with
    | some (.lst ws) => (ixN ws.length (u : Int)).map fun j' => setO s (.hp j) (.lst (ws.set j' w))
    | some (.dct false kvs) => if D.isKey (.int u) && decide (kvs.length < LN) then some (setO s (.hp j) (.dct false (dput kvs (.int u) w))) else none
    | _ => none) = _
  rw [show getO s (.hp j) = some (.lst ws) from e]
  simp only
  rw [ixN_nat h]
  rfl
def lwOf : Nat → List Ed → Ss → List (D × W) → List (D × W)
  | _, [], _, l => l
  | k, e :: es, s, l => match low s e with
    | some _ => lwOf (k + 1) es (rx s e) (dput l (.int e.2.1) (.d (.int k)))
    | none => lwOf (k + 1) es s l
theorem g_get {s : Ss} {u : Nat} (h : u < s.length) : (s.map oD)[u]? = some (oD (g s u)) := by
  rw [List.getElem?_map, List.getElem?_eq_getElem h]
  unfold g
  rw [List.getD_eq_getElem?_getD, List.getElem?_eq_getElem h]
  rfl
/-- the turn of settle -/
abbrev SB : Mn.St := (seqS (unpS (tgT [tgV 5, tgV 6, tgV 7]) (vE 4)) (ifS (andT (tst (op2 isntV (op2 ixV (vE 0) (vE 5)) (kE .non))) (orT (tst (op2 isV (op2 ixV (vE 0) (vE 6)) (kE .non))) (tst (op2 ltV (op2 addV (op2 ixV (vE 0) (vE 5)) (vE 7)) (op2 ixV (vE 0) (vE 6)))))) (seqS (putS (vE 0) (vE 6) (op2 addV (op2 ixV (vE 0) (vE 5)) (vE 7))) (putS (vE 2) (vE 6) (vE 3))) (nxS)))
theorem settle_turn {j : Nat} {E : W} {lw : List (D × W)} {pl : Int} {e : Ed} {a5 a6 a7 : E0} {h : List O} {s : Ss} (hj : h[j]? = some (.lst (s.map oD))) (h1 : e.1 < s.length) (h2 : e.2.1 < s.length) (hl : lw.length < LN) :
    SB ⟨[.w (.ref j), .w E, .own (.dct false lw), .w (.d (.int pl)), .w (.d (eD e)), a5, a6, a7], h⟩ =
      .nx ⟨[.w (.ref j), .w E, .own (.dct false (match low s e with | some _ => dput lw (.int e.2.1) (.d (.int pl)) | none => lw)), .w (.d (.int pl)), .w (.d (eD e)), .w (.d (.int e.1)), .w (.d (.int e.2.1)), .w (.d (.int e.2.2))], h.set j (.lst ((rx s e).map oD))⟩ := by
  obtain ⟨u, v, w⟩ := e
  have gu := g_get h1
  have gv := g_get h2
  have same : h.set j (.lst (s.map oD)) = h := by
    obtain ⟨hlt, e⟩ := List.getElem?_eq_some_iff.mp hj
    rw [← e]; exact List.set_getElem_self hlt
  have xu : ∀ ρ, ρ = [E0.w (.ref j), .w E, .own (.dct false lw), .w (.d (.int pl)), .w (.d (eD (u, v, w))), .w (.d (.int u)), .w (.d (.int v)), .w (.d (.int w))] → op2 ixV (vE 0) (vE 5) ⟨ρ, h⟩ = .ok (.w (oD (g s u))) ⟨ρ, h⟩ := fun ρ e => by
    subst e; exact op2_ev rfl rfl (ix_ref hj gu)
  have xv : ∀ ρ, ρ = [E0.w (.ref j), .w E, .own (.dct false lw), .w (.d (.int pl)), .w (.d (eD (u, v, w))), .w (.d (.int u)), .w (.d (.int v)), .w (.d (.int w))] → op2 ixV (vE 0) (vE 6) ⟨ρ, h⟩ = .ok (.w (oD (g s v))) ⟨ρ, h⟩ := fun ρ e => by
    subst e; exact op2_ev rfl rfl (ix_ref hj gv)
  refine seq_nx (unp_ev (s2 := ⟨[.w (.ref j), .w E, .own (.dct false lw), .w (.d (.int pl)), .w (.d (eD (u, v, w))), .w (.d (.int u)), .w (.d (.int v)), .w (.d (.int w))], h⟩) rfl rfl) ?_
  unfold rx low
  simp only
  cases qu : g s u with
  | none =>
    simp only
    rw [same]
    refine if_f (andT_f (tst_b (op2_ev (xu _ rfl) rfl ?_))) rfl
    rw [qu]; rfl
  | some a =>
    simp only
    have t1 := xu _ rfl
    rw [qu] at t1
    have sum : op2 addV (op2 ixV (vE 0) (vE 5)) (vE 7) ⟨[E0.w (.ref j), .w E, .own (.dct false lw), .w (.d (.int pl)), .w (.d (eD (u, v, w))), .w (.d (.int u)), .w (.d (.int v)), .w (.d (.int w))], h⟩ = .ok (iR (a + w)) ⟨[E0.w (.ref j), .w E, .own (.dct false lw), .w (.d (.int pl)), .w (.d (eD (u, v, w))), .w (.d (.int u)), .w (.d (.int v)), .w (.d (.int w))], h⟩ := op2_ev t1 rfl rfl
    have puts : ∀ y, y = a + w → (seqS (putS (vE 0) (vE 6) (op2 addV (op2 ixV (vE 0) (vE 5)) (vE 7))) (putS (vE 2) (vE 6) (vE 3))) ⟨[E0.w (.ref j), .w E, .own (.dct false lw), .w (.d (.int pl)), .w (.d (eD (u, v, w))), .w (.d (.int u)), .w (.d (.int v)), .w (.d (.int w))], h⟩ =
        .nx ⟨[.w (.ref j), .w E, .own (.dct false (dput lw (.int v) (.d (.int pl)))), .w (.d (.int pl)), .w (.d (eD (u, v, w))), .w (.d (.int u)), .w (.d (.int v)), .w (.d (.int w))], h.set j (.lst ((s.set v (some y)).map oD))⟩ := fun y ey => by
      subst ey
      refine seq_nx (put_ev sum rfl rfl rfl (put_ref hj (by rw [List.length_map]; exact h2))) ?_
      refine put_ev rfl rfl rfl rfl ?_
      rw [List.map_set]
      show (if D.isKey (.int v) && decide (lw.length < LN) then some _ else none) = _
      rw [if_pos (by simp [D.isKey, hl])]
      rfl
    cases qv : g s v with
    | none =>
      refine if_t (andT_t (tst_b (op2_ev t1 rfl rfl)) (orT_t (tst_b (op2_ev (xv _ rfl) rfl ?_)))) (puts _ rfl)
      rw [qv]; rfl
    | some b =>
      simp only
      have t2 := xv _ rfl
      rw [qv] at t2
      by_cases hlt : a + w < b
      · rw [if_pos hlt]
        exact if_t (andT_t (tst_b (op2_ev t1 rfl rfl)) (orT_f (tst_b (op2_ev t2 rfl rfl)) (tst_b (op2_ev sum t2 (by show some (bR (decide (a + w < b))) = _; rw [decide_eq_true hlt]))))) (puts _ rfl)
      · rw [if_neg hlt]
        simp only
        rw [same]
        exact if_f (andT_t (tst_b (op2_ev t1 rfl rfl)) (orT_f (tst_b (op2_ev t2 rfl rfl)) (tst_b (op2_ev sum t2 (by show some (bR (decide (a + w < b))) = _; rw [decide_eq_false hlt]))))) rfl

theorem rx_len {s : Ss} {e : Ed} : (rx s e).length = s.length := by
  unfold rx
  cases low s e with
  | none => rfl
  | some y => exact List.length_set
theorem dput_len {l : List (D × W)} {k : D} {w : W} : (dput l k w).length ≤ l.length + 1 := by
  unfold dput
  split
  · rw [List.length_map]; exact Nat.le_succ _
  · rw [List.length_append]; exact Nat.le_refl _
theorem settle_loop {j : Nat} {E : W} : ∀ (es : List Ed) (k : Nat) (lw : List (D × W)) (h : List O) (s : Ss) (a3 a4 a5 a6 a7 : E0), h[j]? = some (.lst (s.map oD)) → Ok s.length es → lw.length + es.length < LN →
    ∃ b3 b4 b5 b6 b7, forL none (tgT [tgV 3, tgV 4]) SB (enumL k (es.map fun e => W.d (eD e))) ⟨[.w (.ref j), .w E, .own (.dct false lw), a3, a4, a5, a6, a7], h⟩ = .nx ⟨[.w (.ref j), .w E, .own (.dct false (lwOf k es s lw)), b3, b4, b5, b6, b7], h.set j (.lst ((rnd es s).map oD))⟩
  | [], k, lw, h, s, a3, a4, a5, a6, a7, hj, _, _ => by
    have same : h.set j (.lst (s.map oD)) = h := by
      obtain ⟨hlt, e⟩ := List.getElem?_eq_some_iff.mp hj
      rw [← e]; exact List.set_getElem_self hlt
    refine ⟨a3, a4, a5, a6, a7, ?_⟩
    show forL none _ _ [] _ = .nx ⟨[.w (.ref j), .w E, .own (.dct false lw), a3, a4, a5, a6, a7], h.set j (.lst (s.map oD))⟩
    rw [same]
    exact forL_nil rfl
  | e :: es, k, lw, h, s, a3, a4, a5, a6, a7, hj, ok, hl => by
    have hm := ok e List.mem_cons_self
    have hlt := (List.getElem?_eq_some_iff.mp hj).1
    have hl0 : lw.length < LN := by simp only [List.length_cons] at hl; omega
    have T := settle_turn (E := E) (lw := lw) (pl := k) (a5 := a5) (a6 := a6) (a7 := a7) hj hm.1 hm.2 hl0
    have hj2 : (h.set j (.lst ((rx s e).map oD)))[j]? = some (.lst ((rx s e).map oD)) := List.getElem?_set_self hlt
    obtain ⟨b3, b4, b5, b6, b7, ih⟩ := settle_loop (E := E) es (k + 1) (match low s e with | some _ => dput lw (.int e.2.1) (.d (.int k)) | none => lw) _ (rx s e) (.w (.d (.int k))) (.w (.d (eD e))) (.w (.d (.int e.1))) (.w (.d (.int e.2.1))) (.w (.d (.int e.2.2))) hj2 (fun e' he => by rw [rx_len]; exact ok e' (List.mem_cons_of_mem _ he)) (by
      simp only [List.length_cons] at hl
      cases low s e with
      | none => simp only; omega
      | some y => simp only; have := dput_len (l := lw) (k := .int e.2.1) (w := .d (.int k)); omega)
    refine ⟨b3, b4, b5, b6, b7, ?_⟩
    refine forL_cons rfl rfl T ?_
    rw [ih, List.set_set]
    have e1 : lwOf (k + 1) es (rx s e) (match low s e with | some _ => dput lw (.int e.2.1) (.d (.int k)) | none => lw) = lwOf k (e :: es) s lw := by
      show _ = (match low s e with
        | some _ => lwOf (k + 1) es (rx s e) (dput lw (.int e.2.1) (.d (.int k)))
        | none => lwOf (k + 1) es s lw)
      unfold rx
      cases low s e <;> rfl
    rw [e1]
    rfl
def eT (es : List Ed) : W := .d (.tup (es.map eD))
theorem settle_sp (k j : Nat) (es : List Ed) (s : Ss) (h : List O) (hj : h[j]? = some (.lst (s.map oD))) (ok : Ok s.length es) (hl : es.length < LN) :
    callF fns (k + 1) 2 [.ref j, eT es] h = .ok (.new (.dct false (lwOf 0 es s []))) (h.set j (.lst ((rnd es s).map oD))) := by
  rw [call_s k 2 ⟨2, 8, B2⟩ _ _ rfl rfl]
  obtain ⟨b3, b4, b5, b6, b7, L⟩ := settle_loop (j := j) (E := eT es) es 0 [] h s .un .un .un .un .un hj ok (by simpa using hl)
  have it : itEnum (vE 1) ⟨[.w (.ref j), .w (eT es), .own (.dct false []), .un, .un, .un, .un, .un], h⟩ = .ok ⟨enumL 0 (es.map fun e => W.d (eD e)), none⟩ ⟨[.w (.ref j), .w (eT es), .own (.dct false []), .un, .un, .un, .un, .un], h⟩ := by
    show Res.ok (⟨enumL 0 ((es.map eD).map W.d), none⟩ : It) _ = _
    rw [List.map_map]
    rfl
  have B : B2 (callF fns k) ⟨[.w (.ref j), .w (eT es), .un, .un, .un, .un, .un, .un], h⟩ = .rt (.slot 2) ⟨[.w (.ref j), .w (eT es), .own (.dct false (lwOf 0 es s [])), b3, b4, b5, b6, b7], h.set j (.lst ((rnd es s).map oD))⟩ :=
    seq_nx (s1 := ⟨[.w (.ref j), .w (eT es), .own (.dct false []), .un, .un, .un, .un, .un], h⟩) rfl (seq_nx (for_ev it L) rfl)
  show outF (B2 (callF fns k) ⟨[.w (.ref j), .w (eT es), .un, .un, .un, .un, .un, .un], h⟩) = _
  rw [B]
  rfl
/-! ### as the law does it: _law_settled -/
abbrev LB : Mn.St := (ifS (andT (tst (op2 isntV (op2 ixV (vE 3) (vE 6)) (kE .non))) (orT (tst (op2 isV (op2 ixV (vE 3) (vE 7)) (kE .non))) (tst (op2 ltV (op2 addV (op2 ixV (vE 3) (vE 6)) (vE 8)) (op2 ixV (vE 3) (vE 7)))))) (seqS (putS (vE 3) (vE 7) (op2 addV (op2 ixV (vE 3) (vE 6)) (vE 8))) (setS 5 (kE (.bl true)))) (nxS))
end HeadT

set_option linter.all false
set_option maxRecDepth 100000
set_option maxHeartbeats 1000000
namespace HeadT
open Mn BF
def oDd : Option Int → D
  | none => .non
  | some a => .int a
theorem oD_d (x : Option Int) : oD x = .d (oDd x) := by cases x <;> rfl
theorem oD_map (s : Ss) : s.map oD = (s.map oDd).map W.d := by rw [List.map_map]; exact List.map_congr_left fun x _ => oD_d x
theorem ix_slot {s : S} {i u : Nat} {ws : List W} {w : W} (e : s.ρ[i]? = some (.own (.lst ws))) (h : ws[u]? = some w) : ixV s (.slot i) (iR (u : Int)) = some (.w w) := by
  have e0 : getO s (.sl i) = some (.lst ws) := by
    show (match s.ρ[i]? with
      | some (.own o) => some o
      | _ => none) = _
    rw [e]
  have e1 : objR s (.slot i) = some (.lst ws) := by
    show (match (match s.ρ[i]? with
      | some (.own _) => some (Src.sl i)
      | some (.w (.ref j)) => some (.hp j)
      | _ => none) with
      | some x => getO s x
      | none => none) = _
    rw [e]
    exact e0
  have hu : u < ws.length := (List.getElem?_eq_some_iff.mp h).1
  show (match objR s (.slot i) with
    | some (.dct _ kvs) => if D.isKey (.int u) then (look kvs (.int u)).map R.w else none
    | _ => ixSeq s (.slot i) u) = _
  rw [e1]
  show (match seqR s (.slot i) with
    | some p => (atI p.2 (u : Int)).map R.w
    | none => none) = _
  have e2 : seqR s (.slot i) = some (true, ws) := by
    show (match objR s (.slot i) with
      | some (.lst ws) => some (true, ws)
      | _ => none) = _
    rw [e1]
  rw [e2]
  show (atI ws (u : Int)).map R.w = _
  unfold atI
  rw [ixN_nat hu]
  simp only [h]
  rfl
theorem put_slot {s : S} {i u : Nat} {ws : List W} {w : W} (e : s.ρ[i]? = some (.own (.lst ws))) (h : u < ws.length) : putV (.slot i) (iR (u : Int)) w s = some ⟨s.ρ.set i (.own (.lst (ws.set u w))), s.h⟩ := by
  have e0 : getO s (.sl i) = some (.lst ws) := by
    show (match s.ρ[i]? with
      | some (.own o) => some o
      | _ => none) = _
    rw [e]
  have l0 : locR s (.slot i) = some (.sl i) := by
    show (match s.ρ[i]? with
      | some (.own _) => some (Src.sl i)
      | some (.w (.ref j)) => some (.hp j)
      | _ => none) = _
    rw [e]
  show (match locR s (.slot i), (R.w (.d (.int (u : Int)))) with
    | some p, .w (.d k) => match getO s p with
      | some (.lst ws) => match k with
        | .int n => (ixN ws.length n).map fun j => setO s p (.lst (ws.set j w))
        | _ => none
      | some (.dct false kvs) => if k.isKey && decide (kvs.length < LN) then some (setO s p (.dct false (dput kvs k w))) else none
      | _ => none
    | _, _ => none) = _
  rw [l0]
  simp only [e0]
  rw [ixN_nat h]
  rfl
/-- the turn of the law's own round -/
theorem lb_turn {n : Int} {E B lap : W} {m : Bool} {e : Ed} {h : List O} {s : Ss} (h1 : e.1 < s.length) (h2 : e.2.1 < s.length) :
    LB ⟨[.w (.d (.int n)), .w E, .w B, .own (.lst (s.map oD)), .w lap, .w (.d (.bl m)), .w (.d (.int e.1)), .w (.d (.int e.2.1)), .w (.d (.int e.2.2))], h⟩ =
      .nx ⟨[.w (.d (.int n)), .w E, .w B, .own (.lst ((rx s e).map oD)), .w lap, .w (.d (.bl (m || (low s e).isSome))), .w (.d (.int e.1)), .w (.d (.int e.2.1)), .w (.d (.int e.2.2))], h⟩ := by
  obtain ⟨u, v, w⟩ := e
  have gu := g_get h1
  have gv := g_get h2
  have xu : op2 ixV (vE 3) (vE 6) ⟨[.w (.d (.int n)), .w E, .w B, .own (.lst (s.map oD)), .w lap, .w (.d (.bl m)), .w (.d (.int u)), .w (.d (.int v)), .w (.d (.int w))], h⟩ = .ok (.w (oD (g s u))) ⟨[.w (.d (.int n)), .w E, .w B, .own (.lst (s.map oD)), .w lap, .w (.d (.bl m)), .w (.d (.int u)), .w (.d (.int v)), .w (.d (.int w))], h⟩ := op2_ev rfl rfl (ix_slot rfl gu)
  have xv : op2 ixV (vE 3) (vE 7) ⟨[.w (.d (.int n)), .w E, .w B, .own (.lst (s.map oD)), .w lap, .w (.d (.bl m)), .w (.d (.int u)), .w (.d (.int v)), .w (.d (.int w))], h⟩ = .ok (.w (oD (g s v))) ⟨[.w (.d (.int n)), .w E, .w B, .own (.lst (s.map oD)), .w lap, .w (.d (.bl m)), .w (.d (.int u)), .w (.d (.int v)), .w (.d (.int w))], h⟩ := op2_ev rfl rfl (ix_slot rfl gv)
  unfold rx low
  simp only
  cases qu : g s u with
  | none =>
    simp only [Option.isSome_none, Bool.or_false]
    refine if_f (andT_f (tst_b (op2_ev xu rfl ?_))) rfl
    rw [qu]; rfl
  | some a =>
    simp only
    have t1 := xu
    rw [qu] at t1
    have sum := op2_ev (f := addV) (b := vE 8) (y := iR w) (r := iR (a + w)) t1 rfl rfl
    have puts : ∀ y, y = a + w → (seqS (putS (vE 3) (vE 7) (op2 addV (op2 ixV (vE 3) (vE 6)) (vE 8))) (setS 5 (kE (.bl true)))) ⟨[.w (.d (.int n)), .w E, .w B, .own (.lst (s.map oD)), .w lap, .w (.d (.bl m)), .w (.d (.int u)), .w (.d (.int v)), .w (.d (.int w))], h⟩ =
        .nx ⟨[.w (.d (.int n)), .w E, .w B, .own (.lst ((s.set v (some y)).map oD)), .w lap, .w (.d (.bl true)), .w (.d (.int u)), .w (.d (.int v)), .w (.d (.int w))], h⟩ := fun y ey => by
      subst ey
      refine seq_nx (put_ev sum rfl rfl rfl (put_slot rfl (by rw [List.length_map]; exact h2))) ?_
      rw [List.map_set]
      rfl
    cases qv : g s v with
    | none =>
      simp only [Option.isSome_some, Bool.or_true]
      refine if_t (andT_t (tst_b (op2_ev t1 rfl rfl)) (orT_t (tst_b (op2_ev xv rfl ?_)))) (puts _ rfl)
      rw [qv]; rfl
    | some b =>
      simp only
      have t2 := xv
      rw [qv] at t2
      by_cases hlt : a + w < b
      · rw [if_pos hlt]
        simp only [Option.isSome_some, Bool.or_true]
        exact if_t (andT_t (tst_b (op2_ev t1 rfl rfl)) (orT_f (tst_b (op2_ev t2 rfl rfl)) (tst_b (op2_ev sum t2 (by show some (bR (decide (a + w < b))) = _; rw [decide_eq_true hlt]))))) (puts _ rfl)
      · rw [if_neg hlt]
        simp only [Option.isSome_none, Bool.or_false]
        exact if_f (andT_t (tst_b (op2_ev t1 rfl rfl)) (orT_f (tst_b (op2_ev t2 rfl rfl)) (tst_b (op2_ev sum t2 (by show some (bR (decide (a + w < b))) = _; rw [decide_eq_false hlt]))))) rfl
theorem lb_loop {n : Int} {E B lap : W} : ∀ (es : List Ed) (m : Bool) (h : List O) (s : Ss) (a6 a7 a8 : E0), Ok s.length es →
    ∃ b6 b7 b8, forL none (tgT [tgV 6, tgV 7, tgV 8]) LB (es.map fun e => W.d (eD e)) ⟨[.w (.d (.int n)), .w E, .w B, .own (.lst (s.map oD)), .w lap, .w (.d (.bl m)), a6, a7, a8], h⟩ = .nx ⟨[.w (.d (.int n)), .w E, .w B, .own (.lst ((rnd es s).map oD)), .w lap, .w (.d (.bl (m || mvd es s))), b6, b7, b8], h⟩
  | [], m, h, s, a6, a7, a8, _ => by
    refine ⟨a6, a7, a8, ?_⟩
    show forL none _ _ [] _ = .nx ⟨[.w (.d (.int n)), .w E, .w B, .own (.lst (s.map oD)), .w lap, .w (.d (.bl (m || false))), a6, a7, a8], h⟩
    rw [Bool.or_false]
    exact forL_nil rfl
  | e :: es, m, h, s, a6, a7, a8, ok => by
    have hm := ok e List.mem_cons_self
    have T := lb_turn (n := n) (E := E) (B := B) (lap := lap) (m := m) (h := h) hm.1 hm.2
    obtain ⟨b6, b7, b8, ih⟩ := lb_loop (n := n) (E := E) (B := B) (lap := lap) es (m || (low s e).isSome) h (rx s e) (.w (.d (.int e.1))) (.w (.d (.int e.2.1))) (.w (.d (.int e.2.2))) (fun e' he => by rw [rx_len]; exact ok e' (List.mem_cons_of_mem _ he))
    refine ⟨b6, b7, b8, ?_⟩
    refine forL_cons rfl rfl T ?_
    rw [ih]
    show Out.nx ⟨[.w (.d (.int n)), .w E, .w B, .own (.lst ((rnd es (rx s e)).map oD)), .w lap, .w (.d (.bl ((m || (low s e).isSome) || mvd es (rx s e)))), b6, b7, b8], h⟩ = .nx ⟨[.w (.d (.int n)), .w E, .w B, .own (.lst ((rnd es (rx s e)).map oD)), .w lap, .w (.d (.bl (m || ((low s e).isSome || mvd es (rx s e))))), b6, b7, b8], h⟩
    rw [Bool.or_assoc]
def tW (o : Option Ss) : W := match o with
  | some t => .d (.tup (t.map oDd))
  | none => .d .non
abbrev LL (n : Int) : Mn.St := (seqS (setS 5 (kE (.bl false))) (seqS (forS (itE (vE 1)) (tgT [tgV 6, tgV 7, tgV 8]) LB) (ifS (notT (tst (vE 5))) (retS (op1 tupleV (vE 3))) (nxS))))
theorem rnd_len (es : List Ed) (s : Ss) : (rnd es s).length = s.length := rn_len (es := es) (s := s) 1
theorem ll_loop {n : Int} {B : W} {es : List Ed} {h : List O} : ∀ (ws : List W) (s : Ss) (a4 a5 a6 a7 a8 : E0), Ok s.length es →
    (∃ t st, stl es ws.length s = some t ∧ forL none (tgV 4) (LL n) ws ⟨[.w (.d (.int n)), .w (eT es), .w B, .own (.lst (s.map oD)), a4, a5, a6, a7, a8], h⟩ = .rt (.w (tW (some t))) st ∧ st.h = h) ∨
    (∃ st, stl es ws.length s = none ∧ forL none (tgV 4) (LL n) ws ⟨[.w (.d (.int n)), .w (eT es), .w B, .own (.lst (s.map oD)), a4, a5, a6, a7, a8], h⟩ = .nx st ∧ st.h = h)
  | [], s, a4, a5, a6, a7, a8, _ => .inr ⟨_, rfl, forL_nil rfl, rfl⟩
  | w :: ws, s, a4, a5, a6, a7, a8, ok => by
    obtain ⟨b6, b7, b8, L⟩ := lb_loop (n := n) (E := eT es) (B := B) (lap := w) es false h s a6 a7 a8 ok
    rw [Bool.false_or] at L
    have it : itE (vE 1) ⟨[.w (.d (.int n)), .w (eT es), .w B, .own (.lst (s.map oD)), .w w, .w (.d (.bl false)), a6, a7, a8], h⟩ = .ok ⟨es.map fun e => W.d (eD e), none⟩ ⟨[.w (.d (.int n)), .w (eT es), .w B, .own (.lst (s.map oD)), .w w, .w (.d (.bl false)), a6, a7, a8], h⟩ := by
      show Res.ok (⟨(es.map eD).map W.d, none⟩ : It) _ = _
      rw [List.map_map]
      rfl
    cases q : mvd es s with
    | false =>
      left
      have e := (mvd_no es s q).1
      rw [q, e] at L
      refine ⟨s, ⟨[.w (.d (.int n)), .w (eT es), .w B, .own (.lst (s.map oD)), .w w, .w (.d (.bl false)), b6, b7, b8], h⟩, ?_, ?_, rfl⟩
      · show (if mvd es s then _ else some s) = _
        rw [q]; rfl
      · refine forL_rt rfl rfl (seq_nx rfl (seq_nx (for_ev it L) (if_t rfl (ret_ev (op1_ev rfl ?_)))))
        show some (R.w (mkTup (s.map oD))) = _
        rw [oD_map, mkTup_map]
        rfl
    | true =>
      rw [q] at L
      have body : LL n ⟨[.w (.d (.int n)), .w (eT es), .w B, .own (.lst (s.map oD)), .w w, a5, a6, a7, a8], h⟩ = .nx ⟨[.w (.d (.int n)), .w (eT es), .w B, .own (.lst ((rnd es s).map oD)), .w w, .w (.d (.bl true)), b6, b7, b8], h⟩ := seq_nx rfl (seq_nx (for_ev it L) (if_f rfl rfl))
      have es1 : stl es (w :: ws).length s = stl es ws.length (rnd es s) := by
        show (if mvd es s then stl es ws.length (rnd es s) else some s) = _
        rw [q]; rfl
      rcases ll_loop (n := n) (B := B) (es := es) (h := h) ws (rnd es s) (.w w) (.w (.d (.bl true))) b6 b7 b8 (by rw [rnd_len]; exact ok) with ⟨t, st, h1, h2, h3⟩ | ⟨st, h1, h2, h3⟩
      · exact .inl ⟨t, st, es1.trans h1, forL_cons rfl rfl body h2, h3⟩
      · exact .inr ⟨st, es1.trans h1, forL_cons rfl rfl body h2, h3⟩

theorem upto_len (lo : Int) (n : Nat) : (uptoN lo n).length = n := by simp [uptoN]
/-- _law_settled -/
theorem settled_sp (k n j : Nat) (es : List Ed) (s : Ss) (h : List O) (hj : h[j]? = some (.lst (s.map oD))) (ok : Ok s.length es) (hn : n < 1000) :
    callF fns (k + 1) 12 [.d (.int n), eT es, .ref j] h = .ok (.w (tW (stl es (n + 1) s))) h := by
  rw [call_s k 12 ⟨3, 9, B12⟩ _ _ rfl rfl]
  show outF (B12 (callF fns k) ⟨[.w (.d (.int n)), .w (eT es), .w (.ref j), .un, .un, .un, .un, .un, .un], h⟩) = _
  have l0 : op1 listV (vE 2) ⟨[.w (.d (.int n)), .w (eT es), .w (.ref j), .un, .un, .un, .un, .un, .un], h⟩ = .ok (.new (.lst (s.map oD))) ⟨[.w (.d (.int n)), .w (eT es), .w (.ref j), .un, .un, .un, .un, .un, .un], h⟩ := by
    refine op1_ev rfl ?_
    show (seqR _ (.w (.ref j))).map (fun p => R.new (.lst p.2)) = _
    rw [seq_ref (ws := s.map oD) hj]
    rfl
  have r0 : itR1 (op2 addV (vE 0) (kE (.int 1))) ⟨[.w (.d (.int n)), .w (eT es), .w (.ref j), .own (.lst (s.map oD)), .un, .un, .un, .un, .un], h⟩ = .ok ⟨uptoN 0 (n + 1), none⟩ ⟨[.w (.d (.int n)), .w (eT es), .w (.ref j), .own (.lst (s.map oD)), .un, .un, .un, .un, .un], h⟩ := by
    have := itR1_ev (a := op2 addV (vE 0) (kE (.int 1))) (s := ⟨[.w (.d (.int n)), .w (eT es), .w (.ref j), .own (.lst (s.map oD)), .un, .un, .un, .un, .un], h⟩) (m := (n : Int) + 1) rfl (small_ok (by omega) (by omega))
    rw [show ((n : Int) + 1).toNat = n + 1 by omega] at this
    exact this
  rcases ll_loop (n := n) (B := .ref j) (es := es) (h := h) (uptoN 0 (n + 1)) s .un .un .un .un .un ok with ⟨t, st, h1, h2, h3⟩ | ⟨st, h1, h2, h3⟩
  · rw [upto_len] at h1
    rw [h1]
    have B : B12 (callF fns k) ⟨[.w (.d (.int n)), .w (eT es), .w (.ref j), .un, .un, .un, .un, .un, .un], h⟩ = .rt (.w (tW (some t))) st := seq_nx (set_ev l0 rfl) (seq_rt (for_ev r0 h2))
    rw [B]
    show Res2.ok _ st.h = _
    rw [h3]
  · rw [upto_len] at h1
    rw [h1]
    have B : B12 (callF fns k) ⟨[.w (.d (.int n)), .w (eT es), .w (.ref j), .un, .un, .un, .un, .un, .un], h⟩ = .rt (.w (.d .non)) st := seq_nx (set_ev l0 rfl) (seq_nx (for_ev r0 h2) rfl)
    rw [B]
    show Res2.ok _ st.h = _
    rw [h3]
    rfl
end HeadT

set_option linter.all false
set_option maxRecDepth 100000
set_option maxHeartbeats 1000000
namespace HeadT
open Mn BF
theorem look_map {k : D} {w : W} : ∀ {l : List (D × W)} {k' : D}, look (l.map fun q => if q.1 = k then (q.1, w) else q) k' = if k' = k then (look l k').map (fun _ => w) else look l k'
  | [], k' => by simp [look]
  | (a, b) :: l, k' => by
    have ih := look_map (k := k) (w := w) (l := l) (k' := k')
    simp only [List.map_cons]
    by_cases h1 : a = k
    · subst h1
      simp only [if_true]
      by_cases h2 : a = k'
      · subst h2; simp [look]
      · have h3 : ¬ k' = a := fun z => h2 z.symm
        rw [if_neg h3]
        rw [if_neg h3] at ih
        simp only [look, if_neg h2]
        exact ih
    · rw [if_neg h1]
      by_cases h2 : a = k'
      · subst h2; simp [look, h1]
      · simp only [look, if_neg h2]
        exact ih
theorem look_none {k : D} : ∀ {l : List (D × W)}, (l.any fun q => decide (q.1 = k)) = false → look l k = none
  | [], _ => rfl
  | (a, b) :: l, h => by
    simp only [List.any_cons, Bool.or_eq_false_iff, decide_eq_false_iff_not] at h
    simp only [look, if_neg h.1]
    exact look_none h.2
theorem look_any {k : D} : ∀ {l : List (D × W)}, (l.any fun q => decide (q.1 = k)) = true → ∃ w, look l k = some w
  | [], h => nomatch h
  | (a, b) :: l, h => by
    by_cases e : a = k
    · exact ⟨b, by simp [look, e]⟩
    · simp only [List.any_cons, Bool.or_eq_true, decide_eq_true_eq] at h
      simp only [look, if_neg e]
      exact look_any (h.resolve_left e)
theorem look_app {k : D} {x : D × W} : ∀ {l : List (D × W)}, look (l ++ [x]) k = match look l k with
    | some w => some w
    | none => if x.1 = k then some x.2 else none
  | [] => by obtain ⟨a, b⟩ := x; simp [look]
  | (a, b) :: l => by
    by_cases e : a = k
    · simp [look, e]
    · simp only [List.cons_append, look, if_neg e]
      exact look_app
theorem look_dput {l : List (D × W)} {k k' : D} {w : W} : look (dput l k w) k' = if k' = k then some w else look l k' := by
  unfold dput
  cases h : l.any fun q => decide (q.1 = k) with
  | true =>
    rw [if_pos rfl, look_map]
    by_cases e : k' = k
    · rw [if_pos e, if_pos e]
      subst e
      obtain ⟨w', q⟩ := look_any h
      rw [q]; rfl
    · rw [if_neg e, if_neg e]
  | false =>
    rw [if_neg (by decide), look_app]
    by_cases e : k' = k
    · subst e
      rw [look_none h, if_pos rfl]
    · rw [if_neg e]
      cases look l k' with
      | some w' => rfl
      | none => exact if_neg fun z => e z.symm
/-- what a round's dict tells of the round -/
def PL (r : Nat) (x0 : X) (x : X) (lw : List (D × W)) : Prop := ∀ v, (x.rd v = r → ∃ p : Nat, look lw (.int (v : Nat)) = some (.d (.int (p : Nat))) ∧ x.par v = some p) ∧ (x.rd v ≠ r → look lw (.int (v : Nat)) = none ∧ x.par v = x0.par v)
theorem lw_run {r : Nat} {x0 : X} : ∀ (l : List Ed) (i : Nat) (x : X) (lw : List (D × W)), PL r x0 x lw → PL r x0 (run r i l x) (lwOf i l x.s lw)
  | [], _, _, _, h => h
  | e :: l, i, x, lw, h => by
    have T : PL r x0 (stp r i e x) (match low x.s e with | some _ => dput lw (.int e.2.1) (.d (.int i)) | none => lw) := by
      unfold stp
      cases q : low x.s e with
      | none => exact h
      | some y =>
        intro v
        by_cases ev : v = e.2.1
        · subst ev
          refine ⟨fun _ => ⟨i, ?_, put_same⟩, fun z => absurd put_same z⟩
          rw [look_dput, if_pos rfl]
        · have e1 : (put x.rd e.2.1 r) v = x.rd v := put_ne ev
          have e2 : (put x.par e.2.1 (some i)) v = x.par v := put_ne ev
          have e3 : ¬ (D.int (v : Nat)) = .int (e.2.1 : Nat) := fun z => ev (by injection z with z; exact Int.ofNat.inj z)
          refine ⟨fun z => ?_, fun z => ?_⟩
          · obtain ⟨p, h1, h2⟩ := (h v).1 (e1 ▸ z)
            exact ⟨p, by rw [look_dput, if_neg e3]; exact h1, e2.trans h2⟩
          · obtain ⟨h1, h2⟩ := (h v).2 (e1 ▸ z)
            exact ⟨by rw [look_dput, if_neg e3]; exact h1, e2.trans h2⟩
    have := lw_run l (i + 1) (stp r i e x) _ T
    show PL r x0 (run r (i + 1) l (stp r i e x)) _
    have e1 : lwOf i (e :: l) x.s lw = lwOf (i + 1) l (stp r i e x).s (match low x.s e with | some _ => dput lw (.int e.2.1) (.d (.int i)) | none => lw) := by
      rw [stp_s]
      show (match low x.s e with
        | some _ => lwOf (i + 1) l (rx x.s e) (dput lw (.int e.2.1) (.d (.int i)))
        | none => lwOf (i + 1) l x.s lw) = _
      unfold rx
      cases low x.s e <;> rfl
    rw [e1]
    exact this
/-- keys are numbers of vertices, each once -/
def KN (n : Nat) (l : List (D × W)) : Prop := (l.map (·.1)).Nodup ∧ ∀ q ∈ l, ∃ v : Nat, v < n ∧ q.1 = .int (v : Nat)
theorem kn_dput {n v : Nat} {l : List (D × W)} {w : W} (h : KN n l) (hv : v < n) : KN n (dput l (.int (v : Nat)) w) := by
  unfold dput
  cases q : l.any fun q => decide (q.1 = D.int (v : Nat)) with
  | true =>
    rw [if_pos rfl]
    have e : (l.map fun q => if q.1 = D.int (v : Nat) then (q.1, w) else q).map (·.1) = l.map (·.1) := by
      rw [List.map_map]
      refine List.map_congr_left fun x _ => ?_
      show (if x.1 = D.int (v : Nat) then (x.1, w) else x).1 = x.1
      split <;> rfl
    refine ⟨by rw [e]; exact h.1, fun x hx => ?_⟩
    obtain ⟨y, hy, rfl⟩ := List.mem_map.mp hx
    obtain ⟨u, h1, h2⟩ := h.2 y hy
    refine ⟨u, h1, ?_⟩
    split <;> exact h2
  | false =>
    rw [if_neg (by decide)]
    refine ⟨?_, fun x hx => ?_⟩
    · rw [List.map_append, List.nodup_append]
      refine ⟨h.1, by simp, fun a ha b hb => ?_⟩
      simp only [List.map_cons, List.map_nil, List.mem_singleton] at hb
      subst hb
      obtain ⟨y, hy, rfl⟩ := List.mem_map.mp ha
      have := List.any_eq_false.mp q y hy
      simpa using this
    · rcases List.mem_append.mp hx with hx | hx
      · exact h.2 x hx
      · simp only [List.mem_singleton] at hx
        subst hx
        exact ⟨v, hv, rfl⟩
theorem kn_lw {n : Nat} : ∀ (l : List Ed) (i : Nat) (s : Ss) (lw : List (D × W)), Ok n l → KN n lw → KN n (lwOf i l s lw)
  | [], _, _, _, _, h => h
  | e :: l, i, s, lw, ok, h => by
    show KN n (match low s e with
      | some _ => lwOf (i + 1) l (rx s e) (dput lw (.int e.2.1) (.d (.int i)))
      | none => lwOf (i + 1) l s lw)
    have ok' : Ok n l := fun e' he => ok e' (List.mem_cons_of_mem _ he)
    cases low s e with
    | none => exact kn_lw l _ _ _ ok' h
    | some y => exact kn_lw l _ _ _ ok' (kn_dput h (ok e List.mem_cons_self).2)
theorem kn_len {n : Nat} {l : List (D × W)} (h : KN n l) : l.length ≤ n := by
  have key : ∀ (l : List (D × W)), (∀ q ∈ l, ∃ v : Nat, v < n ∧ q.1 = .int (v : Nat)) → ∃ m : List Nat, l.map (·.1) = m.map (fun v : Nat => D.int (v : Nat)) ∧ ∀ v ∈ m, v < n := by
    intro l
    induction l with
    | nil => intro _; exact ⟨[], rfl, fun v h => by cases h⟩
    | cons x l ih =>
      intro h
      obtain ⟨m, h1, h2⟩ := ih fun q hq => h q (List.mem_cons_of_mem _ hq)
      obtain ⟨v, h3, h4⟩ := h x List.mem_cons_self
      refine ⟨v :: m, by simp [h1, h4], fun u hu => ?_⟩
      rcases List.mem_cons.mp hu with rfl | hu
      · exact h3
      · exact h2 u hu
  obtain ⟨m, h1, h2⟩ := key l h.2
  have nd : m.Nodup := by
    have := h.1
    rw [h1] at this
    exact (List.pairwise_map.mp this).imp fun h z => h (by rw [z])
  have := nodup_le n m nd h2
  have e : l.length = m.length := by have := congrArg List.length h1; simpa using this
  omega

/-! ### ahead gets what the round lowered -/
def mg : List (D × W) → List (D × W) → List (D × W)
  | a, [] => a
  | a, q :: l => mg (dput a q.1 q.2) l
theorem look_mg {k : D} : ∀ {l a : List (D × W)}, (l.map (·.1)).Nodup → look (mg a l) k = match look l k with
    | some w => some w
    | none => look a k
  | [], a, _ => rfl
  | (x, w) :: l, a, h => by
    simp only [List.map_cons, List.nodup_cons] at h
    show look (mg (dput a x w) l) k = _
    rw [look_mg h.2, look_dput]
    by_cases e : x = k
    · subst e
      have : look l x = none := look_none (List.any_eq_false.mpr fun q hq => by
        simp only [decide_eq_true_eq]
        exact fun z => h.1 (List.mem_map.mpr ⟨q, hq, z⟩))
      rw [this]
      simp [look]
    · have e' : ¬ k = x := fun z => e z.symm
      simp only [look, if_neg e, if_neg e']
theorem mg_kn {n : Nat} : ∀ {l a : List (D × W)}, KN n a → (∀ q ∈ l, ∃ v : Nat, v < n ∧ q.1 = .int (v : Nat)) → KN n (mg a l)
  | [], _, h, _ => h
  | q :: l, a, h, hl => by
    obtain ⟨v, h1, h2⟩ := hl q List.mem_cons_self
    show KN n (mg (dput a q.1 q.2) l)
    rw [h2]
    exact mg_kn (kn_dput h h1) fun q hq => hl q (List.mem_cons_of_mem _ hq)
theorem look_mem {l : List (D × W)} (h : (l.map (·.1)).Nodup) {q : D × W} (hq : q ∈ l) : look l q.1 = some q.2 := by
  induction l with
  | nil => cases hq
  | cons x l ih =>
    obtain ⟨a, b⟩ := x
    simp only [List.map_cons, List.nodup_cons] at h
    rcases List.mem_cons.mp hq with rfl | hq
    · simp [look]
    · have : ¬ a = q.1 := fun z => h.1 (z ▸ List.mem_map.mpr ⟨q, hq, rfl⟩)
      simp only [look, if_neg this]
      exact ih h.2 hq
/-- the turn over the round's dict, which stands at a heap's place -/
theorem mg_loop {n : Nat} {a0 a1 : W} {e2 : E0} {g : Nat} {lw : List (D × W)} {h : List O} (hg : h[g]? = some (.dct true lw)) (nd : (lw.map (·.1)).Nodup) (hn : n < 1000) : ∀ (l : List (D × W)) (ah : List (D × W)) (b5 b6 : E0), (∀ q ∈ l, q ∈ lw ∧ ∃ v : Nat, v < n ∧ q.1 = .int (v : Nat)) → KN n ah →
    ∃ b6', forL (some (g, .dct true lw)) (tgV 6) (putS (vE 3) (vE 6) (op2 ixV (vE 4) (vE 6))) (l.map fun q => W.d q.1) ⟨[.w a0, .w a1, e2, .own (.dct false ah), .w (.ref g), b5, b6], h⟩ = .nx ⟨[.w a0, .w a1, e2, .own (.dct false (mg ah l)), .w (.ref g), b5, b6'], h⟩
  | [], ah, b5, b6, _, _ => ⟨b6, forL_nil (by simp [kept, hg])⟩
  | q :: l, ah, b5, b6, hl, ka => by
    obtain ⟨hq, v, hv, eq⟩ := hl q List.mem_cons_self
    have lk := look_mem nd hq
    obtain ⟨x, w⟩ := q
    simp only at eq lk
    subst eq
    obtain ⟨b6', ih⟩ := mg_loop hg nd hn l (dput ah (.int (v : Nat)) w) b5 (.w (.d (.int (v : Nat)))) (fun q hq => hl q (List.mem_cons_of_mem _ hq)) (kn_dput ka hv)
    refine ⟨b6', forL_cons (by simp [kept, hg]) rfl ?_ ih⟩
    have ld : op2 ixV (vE 4) (vE 6) ⟨[.w a0, .w a1, e2, .own (.dct false ah), .w (.ref g), b5, .w (.d (.int (v : Nat)))], h⟩ = .ok (.w w) ⟨[.w a0, .w a1, e2, .own (.dct false ah), .w (.ref g), b5, .w (.d (.int (v : Nat)))], h⟩ := by
      refine op2_ev rfl rfl ?_
      show (match objR _ (.w (.ref g)) with
        | some (.dct _ kvs) => if D.isKey (.int (v : Nat)) then (look kvs (.int (v : Nat))).map R.w else none
        | _ => ixSeq _ (.w (.ref g)) (v : Nat)) = _
      rw [show objR ⟨[.w a0, .w a1, e2, .own (.dct false ah), .w (.ref g), b5, .w (.d (.int (v : Nat)))], h⟩ (.w (.ref g)) = some (.dct true lw) from hg]
      simp only
      rw [if_pos (show (D.int (v : Nat)).isKey = true from rfl), lk]
      rfl
    refine put_ev ld rfl rfl rfl ?_
    show (if D.isKey (.int (v : Nat)) && decide (ah.length < LN) then some _ else none) = _
    have := kn_len ka
    rw [if_pos (by simp only [D.isKey, Bool.true_and, decide_eq_true_eq]; show ah.length < 16777216; omega)]
    rfl
end HeadT

set_option linter.all false
set_option maxRecDepth 100000
set_option maxHeartbeats 1000000
namespace HeadT
open Mn BF
/-- the dict ahead tells the last edges -/
def AH (ah : List (D × W)) (x : X) : Prop := ∀ v : Nat, look ah (.int (v : Nat)) = (x.par v).map fun p : Nat => W.d (.int (p : Nat))
/-- the sums stand in the slot, or at the heap's first place -/
def SumAt (e2 : E0) (h : List O) (s : Ss) : Prop := (e2 = .own (.lst (s.map oD)) ∧ h = []) ∨ (e2 = .w (.ref 0) ∧ h[0]? = some (.lst (s.map oD)))
abbrev FB (call : Call) : Mn.St := (seqS (setS 4 (callH call 2 (asC (vE 2) (asC (vE 1) (asN))))) (forD 4 (tgV 6) (putS (vE 3) (vE 6) (op2 ixV (vE 4) (vE 6)))))
theorem fr_turn {kk n : Nat} {es : List Ed} {z : Ss} (hz : z.length = n) (ok : Ok n es) (hl : es.length < LN) (hn : n < 1000) {k : Nat} {e2 e4 e5 e6 : E0} {ah : List (D × W)} {h : List O} (hs : SumAt e2 h (rn es k z)) (ha : AH ah (rounds es k (X0 z))) (ka : KN n ah) :
    ∃ g ah' e6' h', FB (callF fns (kk + 1)) ⟨[.w (.d (.int n)), .w (eT es), e2, .own (.dct false ah), e4, e5, e6], h⟩ = .nx ⟨[.w (.d (.int n)), .w (eT es), .w (.ref 0), .own (.dct false ah'), .w (.ref g), e5, e6'], h'⟩ ∧
      h'[0]? = some (.lst ((rn es (k + 1) z).map oD)) ∧ h'[g]? = some (.dct false (lwOf 0 es (rn es k z) [])) ∧ AH ah' (rounds es (k + 1) (X0 z)) ∧ KN n ah' := by
  have hlen : (rn es k z).length = n := by rw [rn_len, hz]
  obtain ⟨h2, hb, h20⟩ : ∃ h2, (∃ rs, asC (vE 2) (asC (vE 1) asN) ⟨[.w (.d (.int n)), .w (eT es), e2, .own (.dct false ah), e4, e5, e6], h⟩ = .ok rs ⟨[.w (.d (.int n)), .w (eT es), e2, .own (.dct false ah), e4, e5, e6], h⟩ ∧
      boxes rs ⟨[.w (.d (.int n)), .w (eT es), e2, .own (.dct false ah), e4, e5, e6], h⟩ = some ([.ref 0, eT es], ⟨[.w (.d (.int n)), .w (eT es), .w (.ref 0), .own (.dct false ah), e4, e5, e6], h2⟩)) ∧ h2[0]? = some (.lst ((rn es k z).map oD)) := by
    rcases hs with ⟨rfl, rfl⟩ | ⟨rfl, h0⟩
    · exact ⟨[.lst ((rn es k z).map oD)], ⟨_, rfl, rfl⟩, rfl⟩
    · exact ⟨h, ⟨_, rfl, rfl⟩, h0⟩
  obtain ⟨rs, hb1, hb2⟩ := hb
  have S := settle_sp kk 0 es (rn es k z) h2 h20 (by rw [hlen]; exact ok) hl
  have h0l : 0 < h2.length := (List.getElem?_eq_some_iff.mp h20).1
  generalize hlw : lwOf 0 es (rn es k z) [] = lw at S
  have C : callH (callF fns (kk + 1)) 2 (asC (vE 2) (asC (vE 1) asN)) ⟨[.w (.d (.int n)), .w (eT es), e2, .own (.dct false ah), e4, e5, e6], h⟩ = .ok (.new (.dct false lw)) ⟨[.w (.d (.int n)), .w (eT es), .w (.ref 0), .own (.dct false ah), e4, e5, e6], h2.set 0 (.lst ((rnd es (rn es k z)).map oD))⟩ :=
    callH_ev hb1 hb2 ((callV_n rfl S).trans rfl)
  have kl : KN n lw := by rw [← hlw]; exact kn_lw es 0 _ _ ok ⟨by simp, fun q hq => by cases hq⟩
  generalize h3e : h2.set 0 (.lst ((rnd es (rn es k z)).map oD)) = h3 at C
  have h3l : 0 < h3.length := by rw [← h3e, List.length_set]; exact h0l
  have h30 : h3[0]? = some (.lst ((rn es (k + 1) z).map oD)) := by rw [← h3e]; exact List.getElem?_set_self h0l
  have frz : (h3 ++ [O.dct true lw])[h3.length]? = some (.dct true lw) := by simp
  obtain ⟨b6, L⟩ := mg_loop (n := n) (a0 := .d (.int n)) (a1 := eT es) (e2 := .w (.ref 0)) frz kl.1 hn lw ah e5 e6 (fun q hq => ⟨hq, kl.2 q hq⟩) ka
  refine ⟨h3.length, mg ah lw, b6, h3 ++ [.dct false lw], ?_, ?_, ?_, ?_, mg_kn ka kl.2⟩
  · refine seq_nx (set_ev C rfl) ?_
    have e1 : forD 4 (tgV 6) (putS (vE 3) (vE 6) (op2 ixV (vE 4) (vE 6))) ⟨[.w (.d (.int n)), .w (eT es), .w (.ref 0), .own (.dct false ah), .own (.dct false lw), e5, e6], h3⟩ = thawO h3.length lw (forL (some (h3.length, .dct true lw)) (tgV 6) (putS (vE 3) (vE 6) (op2 ixV (vE 4) (vE 6))) (lw.map fun q : D × W => W.d q.1) ⟨[.w (.d (.int n)), .w (eT es), .w (.ref 0), .own (.dct false ah), .w (.ref h3.length), e5, e6], (h3 ++ [O.dct false lw]).set h3.length (O.dct true lw)⟩) := by
      show (match (h3 ++ [O.dct false lw])[h3.length]? with
        | some (.dct false kvs) => thawO h3.length kvs (forL (some (h3.length, .dct true kvs)) (tgV 6) (putS (vE 3) (vE 6) (op2 ixV (vE 4) (vE 6))) (kvs.map fun q : D × W => W.d q.1) ⟨[.w (.d (.int n)), .w (eT es), .w (.ref 0), .own (.dct false ah), .w (.ref h3.length), e5, e6], (h3 ++ [O.dct false lw]).set h3.length (O.dct true kvs)⟩)
        | _ => .bad) = _
      have : (h3 ++ [O.dct false lw])[h3.length]? = some (.dct false lw) := by simp
      rw [this]
    refine e1.trans ?_
    have e2 : (h3 ++ [O.dct false lw]).set h3.length (.dct true lw) = h3 ++ [.dct true lw] := by simp
    rw [e2, L]
    show ofOpt (thaw h3.length lw ⟨_, h3 ++ [.dct true lw]⟩) = _
    unfold thaw
    rw [if_pos frz]
    have e3 : (h3 ++ [O.dct true lw]).set h3.length (.dct false lw) = h3 ++ [.dct false lw] := by simp
    simp only [e3]
    rfl
  · rw [List.getElem?_append_left h3l]; exact h30
  · simp
  · intro v
    rw [look_mg kl.1]
    have P := lw_run (r := k + 1) (x0 := rounds es k (X0 z)) es 0 (rounds es k (X0 z)) [] (fun v => ⟨fun e => by
      have := rounds_rd ok hz k v
      omega, fun _ => ⟨rfl, rfl⟩⟩)
    rw [rounds_s, hlw] at P
    show _ = ((run (k + 1) 0 es (rounds es k (X0 z))).par v).map _
    by_cases e : (run (k + 1) 0 es (rounds es k (X0 z))).rd v = k + 1
    · obtain ⟨p, h1, h2⟩ := (P v).1 e
      rw [h1, h2]; rfl
    · obtain ⟨h1, h2⟩ := (P v).2 e
      rw [h1, h2]
      exact ha v

/-- the rounds of falling_round -/
theorem fr_loop {kk n : Nat} {es : List Ed} {z : Ss} (hz : z.length = n) (ok : Ok n es) (hl : es.length < LN) (hn : n < 1000) : ∀ (ws : List W) (w : W) (k : Nat) (e2 e4 e5 e6 : E0) (ah : List (D × W)) (h : List O), SumAt e2 h (rn es k z) → AH ah (rounds es k (X0 z)) → KN n ah →
    ∃ g ah' e5' e6' h', forL none (tgV 5) (FB (callF fns (kk + 1))) (w :: ws) ⟨[.w (.d (.int n)), .w (eT es), e2, .own (.dct false ah), e4, e5, e6], h⟩ = .nx ⟨[.w (.d (.int n)), .w (eT es), .w (.ref 0), .own (.dct false ah'), .w (.ref g), e5', e6'], h'⟩ ∧
      h'[g]? = some (.dct false (lwOf 0 es (rn es (k + ws.length) z) [])) ∧ AH ah' (rounds es (k + ws.length + 1) (X0 z)) ∧ KN n ah'
  | [], w, k, e2, e4, e5, e6, ah, h, hs, ha, ka => by
    obtain ⟨g, ah', e6', h', T, t0, tg, ta, tk⟩ := fr_turn (kk := kk) hz ok hl hn (e4 := e4) (e5 := .w w) (e6 := e6) hs ha ka
    exact ⟨g, ah', .w w, e6', h', forL_cons rfl rfl T (forL_nil rfl), tg, ta, tk⟩
  | w2 :: ws, w, k, e2, e4, e5, e6, ah, h, hs, ha, ka => by
    obtain ⟨g, ah', e6', h', T, t0, tg, ta, tk⟩ := fr_turn (kk := kk) hz ok hl hn (e4 := e4) (e5 := .w w) (e6 := e6) hs ha ka
    obtain ⟨g2, ah2, e5', e6'', h2, L, lg, la, lk⟩ := fr_loop (kk := kk) hz ok hl hn ws w2 (k + 1) (.w (.ref 0)) (.w (.ref g)) (.w w) e6' ah' h' (.inr ⟨rfl, t0⟩) ta tk
    refine ⟨g2, ah2, e5', e6'', h2, forL_cons rfl rfl T L, ?_, ?_, lk⟩
    · rw [show k + (w2 :: ws).length = k + 1 + ws.length by simp only [List.length_cons]; omega]; exact lg
    · rw [show k + (w2 :: ws).length + 1 = k + 1 + ws.length + 1 by simp only [List.length_cons]; omega]; exact la
theorem lw_nil {es : List Ed} : ∀ {i : Nat} {s : Ss} {l : List (D × W)}, mvd es s = false → lwOf i es s l = l := by
  induction es with
  | nil => intro i s l _; rfl
  | cons e es ih =>
    intro i s l h
    have h : ((low s e).isSome || mvd es (rx s e)) = false := h
    rw [Bool.or_eq_false_iff] at h
    have q : low s e = none := by simpa using h.1
    have er : rx s e = s := by unfold rx; rw [q]
    rw [er] at h
    show (match low s e with
      | some _ => lwOf (i + 1) es (rx s e) (dput l (.int e.2.1) (.d (.int i)))
      | none => lwOf (i + 1) es s l) = l
    rw [q]
    exact ih h.2
/-! ### round_through -/
/-- the way back, by edges -/
def pj (x : X) (v : Nat) : Nat := (x.par v).getD 0
theorem ix_dct {s : S} {j v : Nat} {kvs : List (D × W)} {w : W} (e : s.h[j]? = some (.dct false kvs)) (h : look kvs (.int (v : Nat)) = some w) : ixV s (.w (.ref j)) (iR (v : Nat)) = some (.w w) := by
  show (match objR s (.w (.ref j)) with
    | some (.dct _ kvs) => if D.isKey (.int (v : Nat)) then (look kvs (.int (v : Nat))).map R.w else none
    | _ => ixSeq s (.w (.ref j)) (v : Nat)) = _
  rw [show objR s (.w (.ref j)) = some (.dct false kvs) from e]
  simp only
  rw [if_pos (show (D.int (v : Nat)).isKey = true from rfl), h]
  rfl
theorem ix_tup {s : S} {xs : List D} {u : Nat} {x : D} (h : xs[u]? = some x) : ixV s (.w (.d (.tup xs))) (iR (u : Nat)) = some (.w (.d x)) := by
  have hu := (List.getElem?_eq_some_iff.mp h).1
  show (atI xs (u : Int)).map (fun x => R.w (.d x)) = _
  unfold atI
  rw [ixN_nat hu]
  simp only [h]
  rfl
/-- edges[ahead[number]][0] -/
theorem back_ev {s : S} {n r dn : Nat} {es : List Ed} {x : X} {a v : Nat} {ah : List (D × W)} (I : Inv n es r dn x) (ha : AH ah x) (h0 : s.ρ[0]? = some (.w (eT es))) (h1 : s.ρ[1]? = some (.w (.ref a))) (h2 : s.ρ[2]? = some (.w (.d (.int (v : Nat))))) (he : s.h[a]? = some (.dct false ah)) (hp : x.par v ≠ none) :
    op2 ixV (vE 1) (vE 2) s = .ok (iR (pj x v : Nat)) s ∧ op2 ixV (op2 ixV (vE 0) (op2 ixV (vE 1) (vE 2))) (kE (.int 0)) s = .ok (iR (pr es x v : Nat)) s := by
  cases q : x.par v with
  | none => exact absurd q hp
  | some j =>
    obtain ⟨u, w, a', b', e1, _⟩ := I.ok v j q
    have ep : pr es x v = u := by unfold pr; rw [q]; simp only; rw [List.getD_eq_getElem?_getD, e1]; rfl
    have ej : pj x v = j := by unfold pj; rw [q]; rfl
    have v0 : vE 0 s = .ok (.w (eT es)) s := by unfold vE; rw [h0]
    have v1 : vE 1 s = .ok (.w (.ref a)) s := by unfold vE; rw [h1]
    have v2 : vE 2 s = .ok (iR (v : Nat)) s := by unfold vE; rw [h2]
    have A : op2 ixV (vE 1) (vE 2) s = .ok (iR (j : Nat)) s := op2_ev v1 v2 (ix_dct he (by rw [ha v, q]; rfl))
    have g : (es.map eD)[j]? = some (eD (u, v, w)) := by rw [List.getElem?_map, e1]; rfl
    refine ⟨by rw [ej]; exact A, ?_⟩
    rw [ep]
    exact op2_ev (op2_ev v0 A (ix_tup g)) rfl rfl
end HeadT

set_option linter.all false
set_option maxRecDepth 100000
set_option maxHeartbeats 1000000
namespace HeadT
open Mn BF
abbrev iW (v : Nat) : W := .d (.int (v : Nat))
theorem alld_iW : ∀ l : List Nat, alld (l.map iW) = some (l.map fun v : Nat => D.int (v : Nat))
  | [] => rfl
  | v :: l => by show (match alld (l.map iW) with | some xs => some (D.int (v : Nat) :: xs) | none => none) = _; rw [alld_iW l]; rfl
theorem inB_iW (v : Nat) : ∀ l : List Nat, inB (.int (v : Nat)) (l.map fun v : Nat => D.int (v : Nat)) = decide (v ∈ l)
  | [] => rfl
  | u :: l => by
    show (((u : Nat) : Int) == ((v : Nat) : Int) || inB (.int (v : Nat)) (l.map fun v : Nat => D.int (v : Nat))) = _
    rw [inB_iW v l]
    by_cases e : u = v
    · subst e; simp
    · have h1 : (((u : Nat) : Int) == ((v : Nat) : Int)) = false := beq_eq_false_iff_ne.mpr fun z => e (Int.ofNat.inj z)
      rw [h1, Bool.false_or]
      simp [Ne.symm e]
theorem flat_iW : ∀ l : List Nat, (l.map fun v : Nat => D.int (v : Nat)).all D.flat = true
  | [] => rfl
  | v :: l => by simp only [List.map_cons, List.all_cons, flat_iW l]; rfl
theorem notin_ev {s : S} {v : Nat} {l : List Nat} (h2 : s.ρ[2]? = some (.w (iW v))) (h3 : s.ρ[3]? = some (.own (.lst (l.map iW)))) : tst (op2 (inV true) (vE 2) (vE 3)) s = .ok (!decide (v ∈ l)) s := by
  have v2 : vE 2 s = .ok (.w (iW v)) s := by unfold vE; rw [h2]
  have v3 : vE 3 s = .ok (.slot 3) s := by unfold vE; rw [h3]
  refine tst_b (op2_ev v2 v3 ?_)
  have g : getO s (.sl 3) = some (.lst (l.map iW)) := by
    show (match s.ρ[3]? with
      | some (.own o) => some o
      | _ => none) = _
    rw [h3]
  have o : objR s (.slot 3) = some (.lst (l.map iW)) := by
    show (match (match s.ρ[3]? with
      | some (E0.own _) => some (Src.sl 3)
      | some (E0.w (.ref j)) => some (.hp j)
      | _ => none) with
      | some x => getO s x
      | none => none) = _
    rw [h3]
    exact g
  have q : seqR s (.slot 3) = some (true, l.map iW) := by
    show (match objR s (.slot 3) with
      | some (.lst ws) => some (true, ws)
      | _ => none) = _
    rw [o]
  show (inD s (.int (v : Nat)) (.slot 3)).map (fun b => bR (if true then !b else b)) = _
  have i : inD s (.int (v : Nat)) (.slot 3) = some (decide (v ∈ l)) := by
    show (match objR s (.slot 3) with
      | some (.dct _ kvs) => if D.isKey (.int (v : Nat)) then some (kvs.any fun q => decide (q.1 = D.int (v : Nat))) else none
      | _ => inRest s (.int (v : Nat)) (.slot 3)) = _
    rw [o]
    show (match seqR s (.slot 3) with
      | some p => inSeq (.int (v : Nat)) p.2
      | none => signIn (.int (v : Nat)) (.slot 3)) = _
    rw [q]
    show (match alld (l.map iW) with
      | some ys => if D.flat (.int (v : Nat)) && ys.all D.flat then some (inB (.int (v : Nat)) ys) else none
      | none => none) = _
    rw [alld_iW]
    simp only
    rw [flat_iW, inB_iW]
    rfl
  rw [i]
  rfl
abbrev MB : Mn.St := (seqS (exprS (meth appendV (vE 3) (asC (vE 2) (asN)))) (setS 2 (op2 ixV (op2 ixV (vE 0) (op2 ixV (vE 1) (vE 2))) (kE (.int 0)))))
theorem range_snoc {α : Type} (f : Nat → α) (t : Nat) : (List.range (t + 1)).map f = (List.range t).map f ++ [f t] := by rw [List.range_succ, List.map_append]; rfl
theorem met_loop {n r dn a v T : Nat} {es : List Ed} {x : X} {ah : List (D × W)} {e4 e5 : E0} {h : List O} (I : Inv n es r dn x) (ha : AH ah x) (he : h[a]? = some (.dct false ah)) (hp : ∀ m, x.par (it (pr es x) m v) ≠ none) (hT : T ≤ 1000)
    (h1 : ∀ i, i < T → it (pr es x) i v ∉ (List.range i).map fun i => it (pr es x) i v) (h2 : it (pr es x) T v ∈ (List.range T).map fun i => it (pr es x) i v) :
    ∀ d t F, t + d = T → d < F → whileN (tst (op2 (inV true) (vE 2) (vE 3))) MB F ⟨[.w (eT es), .w (.ref a), .w (iW (it (pr es x) t v)), .own (.lst (((List.range t).map fun i => it (pr es x) i v).map iW)), e4, e5], h⟩ =
      .nx ⟨[.w (eT es), .w (.ref a), .w (iW (it (pr es x) T v)), .own (.lst (((List.range T).map fun i => it (pr es x) i v).map iW)), e4, e5], h⟩ := by
  intro d
  induction d with
  | zero =>
    intro t F e hF
    obtain ⟨F, rfl⟩ : ∃ k, F = k + 1 := ⟨F - 1, by omega⟩
    have : t = T := by omega
    subst this
    refine while_f ?_
    rw [notin_ev rfl rfl, decide_eq_true h2]
    rfl
  | succ d ih =>
    intro t F e hF
    obtain ⟨F, rfl⟩ : ∃ k, F = k + 1 := ⟨F - 1, by omega⟩
    have c := ih (t + 1) F (by omega) (by omega)
    have A : exprS (meth appendV (vE 3) (asC (vE 2) asN)) ⟨[.w (eT es), .w (.ref a), .w (iW (it (pr es x) t v)), .own (.lst (((List.range t).map fun i => it (pr es x) i v).map iW)), e4, e5], h⟩ = .nx ⟨[.w (eT es), .w (.ref a), .w (iW (it (pr es x) t v)), .own (.lst (((List.range t).map fun i => it (pr es x) i v).map iW ++ [iW (it (pr es x) t v)])), e4, e5], h⟩ := by
      refine expr_ev (x := .w (.d .non)) (meth_ev rfl rfl (asC_ev rfl asN_ev) ?_)
      show (if (((List.range t).map fun i => it (pr es x) i v).map iW).length < LN then some _ else none) = _
      rw [if_pos (by simp only [List.length_map, List.length_range]; show t < 16777216; omega)]
      rfl
    have Bk := (back_ev (s := ⟨[.w (eT es), .w (.ref a), .w (iW (it (pr es x) t v)), .own (.lst (((List.range t).map fun i => it (pr es x) i v).map iW ++ [iW (it (pr es x) t v)])), e4, e5], h⟩) I ha rfl rfl rfl he (hp t)).2
    refine while_t (s1 := ⟨[.w (eT es), .w (.ref a), .w (iW (it (pr es x) t v)), .own (.lst (((List.range t).map fun i => it (pr es x) i v).map iW)), e4, e5], h⟩) ?_ (seq_nx A (set_ev Bk rfl)) ?_
    · rw [notin_ev rfl rfl, decide_eq_false (h1 t (by omega))]
      rfl
    · rw [it_succ, range_snoc, List.map_append] at c
      exact c

theorem ne_iW {s : S} {v c : Nat} (h2 : s.ρ[2]? = some (.w (iW v))) (h4 : s.ρ[4]? = some (.w (iW c))) : tst (op2 neV (vE 2) (vE 4)) s = .ok (!decide (v = c)) s := by
  have v2 : vE 2 s = .ok (.w (iW v)) s := by unfold vE; rw [h2]
  have v4 : vE 4 s = .ok (.w (iW c)) s := by unfold vE; rw [h4]
  refine tst_b (op2_ev v2 v4 ?_)
  show some (bR (!(((v : Nat) : Int) == ((c : Nat) : Int)))) = _
  by_cases e : v = c
  · subst e; simp
  · have h1 : (((v : Nat) : Int) == ((c : Nat) : Int)) = false := beq_eq_false_iff_ne.mpr fun z => e (Int.ofNat.inj z)
    rw [h1, decide_eq_false e]
abbrev FB2 : Mn.St := (seqS (exprS (meth appendV (vE 5) (asC (op2 ixV (vE 1) (vE 2)) (asN)))) (setS 2 (op2 ixV (op2 ixV (vE 0) (op2 ixV (vE 1) (vE 2))) (kE (.int 0)))))
theorem found_loop {n r dn a c L : Nat} {es : List Ed} {x : X} {ah : List (D × W)} {e3 : E0} {h : List O} (I : Inv n es r dn x) (ha : AH ah x) (he : h[a]? = some (.dct false ah)) (hp : ∀ m, x.par (it (pr es x) m c) ≠ none) (hL : L ≤ 1000)
    (h1 : ∀ i, 0 < i → i < L → it (pr es x) i c ≠ c) (h2 : it (pr es x) L c = c) :
    ∀ d t F, 0 < t → t + d = L → d < F → whileN (tst (op2 neV (vE 2) (vE 4))) FB2 F ⟨[.w (eT es), .w (.ref a), .w (iW (it (pr es x) t c)), e3, .w (iW c), .own (.lst (((List.range t).map fun i => pj x (it (pr es x) i c)).map iW))], h⟩ =
      .nx ⟨[.w (eT es), .w (.ref a), .w (iW c), e3, .w (iW c), .own (.lst (((List.range L).map fun i => pj x (it (pr es x) i c)).map iW))], h⟩ := by
  intro d
  induction d with
  | zero =>
    intro t F _ e hF
    obtain ⟨F, rfl⟩ : ∃ k, F = k + 1 := ⟨F - 1, by omega⟩
    have : t = L := by omega
    subst this
    rw [h2]
    refine while_f ?_
    rw [ne_iW rfl rfl, decide_eq_true rfl]
    rfl
  | succ d ih =>
    intro t F ht e hF
    obtain ⟨F, rfl⟩ : ∃ k, F = k + 1 := ⟨F - 1, by omega⟩
    have cc := ih (t + 1) F (by omega) (by omega) (by omega)
    have B0 := (back_ev (s := ⟨[.w (eT es), .w (.ref a), .w (iW (it (pr es x) t c)), e3, .w (iW c), .own (.lst (((List.range t).map fun i => pj x (it (pr es x) i c)).map iW))], h⟩) I ha rfl rfl rfl he (hp t)).1
    have A : exprS (meth appendV (vE 5) (asC (op2 ixV (vE 1) (vE 2)) asN)) ⟨[.w (eT es), .w (.ref a), .w (iW (it (pr es x) t c)), e3, .w (iW c), .own (.lst (((List.range t).map fun i => pj x (it (pr es x) i c)).map iW))], h⟩ =
        .nx ⟨[.w (eT es), .w (.ref a), .w (iW (it (pr es x) t c)), e3, .w (iW c), .own (.lst (((List.range t).map fun i => pj x (it (pr es x) i c)).map iW ++ [iW (pj x (it (pr es x) t c))]))], h⟩ := by
      refine expr_ev (x := .w (.d .non)) (meth_ev rfl rfl (asC_ev B0 asN_ev) ?_)
      show (if (((List.range t).map fun i => pj x (it (pr es x) i c)).map iW).length < LN then some _ else none) = _
      rw [if_pos (by simp only [List.length_map, List.length_range]; show t < 16777216; omega)]
      rfl
    have Bk := (back_ev (s := ⟨[.w (eT es), .w (.ref a), .w (iW (it (pr es x) t c)), e3, .w (iW c), .own (.lst (((List.range t).map fun i => pj x (it (pr es x) i c)).map iW ++ [iW (pj x (it (pr es x) t c))]))], h⟩) I ha rfl rfl rfl he (hp t)).2
    refine while_t (s1 := ⟨[.w (eT es), .w (.ref a), .w (iW (it (pr es x) t c)), e3, .w (iW c), .own (.lst (((List.range t).map fun i => pj x (it (pr es x) i c)).map iW))], h⟩) ?_ (seq_nx A (set_ev Bk rfl)) ?_
    · rw [ne_iW rfl rfl, decide_eq_false (h1 t ht (by omega))]
      rfl
    · rw [it_succ, range_snoc, List.map_append] at cc
      exact cc
/-- the first that comes again; the ring from there -/
theorem ring_of {f : Nat → Nat} {n v : Nat} (h : ∃ i j, i < j ∧ j ≤ n ∧ it f i v = it f j v) : ∃ T, T ≤ n ∧ (∀ i, i < T → it f i v ∉ (List.range i).map fun i => it f i v) ∧ it f T v ∈ ((List.range T).map fun i => it f i v) ∧
    ∃ L, 0 < L ∧ L ≤ n ∧ it f L (it f T v) = it f T v ∧ ∀ i, 0 < i → i < L → it f i (it f T v) ≠ it f T v := by
  have least : ∀ (P : Nat → Prop) (m : Nat), P m → ∃ k, k ≤ m ∧ P k ∧ ∀ i, i < k → ¬ P i := by
    intro P m
    induction m using Nat.strongRecOn with
    | ind m ih =>
      intro hm
      by_cases q : ∃ i, i < m ∧ P i
      · obtain ⟨i, h1, h2⟩ := q
        obtain ⟨k, h3, h4, h5⟩ := ih i h1 h2
        exact ⟨k, by omega, h4, h5⟩
      · exact ⟨m, Nat.le_refl _, hm, fun i h1 h2 => q ⟨i, h1, h2⟩⟩
  obtain ⟨i, j, h1, h2, h3⟩ := h
  obtain ⟨T, hT, q1, q2⟩ := least (fun t => it f t v ∈ (List.range t).map fun i => it f i v) j (List.mem_map.mpr ⟨i, List.mem_range.mpr h1, h3⟩)
  obtain ⟨t0, h4, h5⟩ := List.mem_map.mp q1
  have h4 := List.mem_range.mp h4
  have h5 : it f t0 v = it f T v := h5
  have cyc : it f (T - t0) (it f T v) = it f T v := by
    rw [← h5, ← it_add, show t0 + (T - t0) = T by omega]
    exact h5.symm
  obtain ⟨L, hL, l1, l2⟩ := least (fun L => 0 < L ∧ it f L (it f T v) = it f T v) (T - t0) ⟨by omega, cyc⟩
  exact ⟨T, by omega, q2, q1, L, l1.1, by omega, l1.2, fun i h6 h7 h8 => l2 i h7 ⟨h6, h8⟩⟩
def told (x : X) (f : Nat → Nat) (L c : Nat) : List Nat := ((List.range L).map fun i => pj x (it f i c)).reverse
/-- round_through -/
theorem through_sp (k : Nat) {n r dn a v : Nat} {es : List Ed} {x : X} {ah : List (D × W)} {h : List O} (I : Inv n es r dn x) (ha : AH ah x) (he : h[a]? = some (.dct false ah)) (hp : ∀ m, x.par (it (pr es x) m v) ≠ none) (hn : n ≤ 1000)
    (hr : ∃ i j, i < j ∧ j ≤ n ∧ it (pr es x) i v = it (pr es x) j v) :
    ∃ L c, 0 < L ∧ it (pr es x) L c = c ∧ (∀ i, 0 < i → i < L → it (pr es x) i c ≠ c) ∧ (∀ m, x.par (it (pr es x) m c) ≠ none) ∧
      callF fns (k + 1) 3 [eT es, .ref a, iW v] h = .ok (.w (.d (.tup ((told x (pr es x) L c).map fun p : Nat => D.int (p : Nat))))) h := by
  obtain ⟨T, hT, q1, q2, L, l1, l2, l3, l4⟩ := ring_of hr
  refine ⟨L, it (pr es x) T v, l1, l3, l4, fun m => by rw [← it_add]; exact hp _, ?_⟩
  have hpc : ∀ m, x.par (it (pr es x) m (it (pr es x) T v)) ≠ none := fun m => by rw [← it_add]; exact hp _
  rw [call_s k 3 ⟨3, 6, B3⟩ _ _ rfl rfl]
  show outF (B3 (callF fns k) ⟨[.w (eT es), .w (.ref a), .w (iW v), .un, .un, .un], h⟩) = _
  have M := met_loop (e4 := .un) (e5 := .un) I ha he hp (by omega) q1 q2 T 0 WN (by omega) (by show T < 2 ^ 40; omega)
  generalize hc : it (pr es x) T v = c at M l3 l4 hpc
  generalize hm : E0.own (.lst (((List.range T).map fun i => it (pr es x) i v).map iW)) = e3 at M
  have b0 := back_ev (s := ⟨[.w (eT es), .w (.ref a), .w (iW c), e3, .w (iW c), .un], h⟩) I ha rfl rfl rfl he (hpc 0)
  have b1 := back_ev (s := ⟨[.w (eT es), .w (.ref a), .w (iW c), e3, .w (iW c), .own (.lst [iW (pj x c)])], h⟩) I ha rfl rfl rfl he (hpc 0)
  have Fl := found_loop (e3 := e3) I ha he hpc (by omega) l4 l3 (L - 1) 1 WN (by omega) (by omega) (by show L - 1 < 2 ^ 40; omega)
  have B : B3 (callF fns k) ⟨[.w (eT es), .w (.ref a), .w (iW v), .un, .un, .un], h⟩ = .rt (.w (.d (.tup ((told x (pr es x) L c).map fun p : Nat => D.int (p : Nat))))) ⟨[.w (eT es), .w (.ref a), .w (iW c), e3, .w (iW c), .own (.lst (((List.range L).map fun i => pj x (it (pr es x) i c)).map iW))], h⟩ := by
    refine seq_nx (s1 := ⟨[.w (eT es), .w (.ref a), .w (iW v), .own (.lst []), .un, .un], h⟩) rfl (seq_nx M (seq_nx (s1 := ⟨[.w (eT es), .w (.ref a), .w (iW c), e3, .w (iW c), .un], h⟩) (by subst hm; rfl) (seq_nx (set_ev (lst_ev (asC_ev b0.1 asN_ev) rfl (by show 1 ≤ 16777216; omega)) rfl) (seq_nx (set_ev b1.2 rfl) (seq_nx Fl (ret_ev (op1_ev rfl ?_)))))))
    show some (R.w (mkTup (((List.range L).map fun i => pj x (it (pr es x) i c)).map iW).reverse)) = _
    have : (((List.range L).map fun i => pj x (it (pr es x) i c)).map iW).reverse = ((told x (pr es x) L c).map fun p : Nat => D.int (p : Nat)).map W.d := by
      unfold told
      rw [← List.map_reverse, List.map_map]
      rfl
    rw [this, mkTup_map]
  rw [B]
  rfl
end HeadT

set_option linter.all false
set_option maxRecDepth 100000
set_option maxHeartbeats 1000000
namespace HeadT
open Mn BF
/-- [c for _ in ..] -/
theorem lc_const {x : D} {ρ : List E0} {i : Nat} {h : List O} (hi : i < ρ.length) : ∀ (ws acc : List W) (e : E0), e.free = true → acc.length + ws.length < LN → ∃ e', e'.free = true ∧ lcL none (tgV i) yesT (kE x) [i] ws acc ⟨ρ.set i e, h⟩ = some (acc ++ List.replicate ws.length (.d x), ⟨ρ.set i e', h⟩)
  | [], acc, e, he, _ => by
    refine ⟨e, he, ?_⟩
    unfold lcL
    have : frees [i] ⟨ρ.set i e, h⟩ = true := by
      unfold frees
      simp only [List.all_cons, List.all_nil, Bool.and_true]
      rw [List.getD_eq_getElem?_getD, List.getElem?_set_self hi]
      exact he
    rw [if_pos (by rw [this]; rfl)]
    simp
  | w :: ws, acc, e, he, hl => by
    simp only [List.length_cons] at hl
    obtain ⟨e', h1, h2⟩ := lc_const (x := x) (h := h) hi ws (acc ++ [.d x]) (.w w) rfl (by rw [List.length_append]; simp only [List.length_cons, List.length_nil]; omega)
    refine ⟨e', h1, ?_⟩
    unfold lcL
    have f : frees [i] ⟨ρ.set i e, h⟩ = true := by
      unfold frees
      simp only [List.all_cons, List.all_nil, Bool.and_true]
      rw [List.getD_eq_getElem?_getD, List.getElem?_set_self hi]
      exact he
    rw [if_pos (by rw [f]; rfl)]
    have t : tgV i (.w w) ⟨Mn.wipe [i] (ρ.set i e), h⟩ = some ⟨ρ.set i (.w w), h⟩ := by
      show (if i < ((ρ.set i e).set i .un).length then some (⟨((ρ.set i e).set i .un).set i (.w w), h⟩ : S) else none) = _
      rw [if_pos (by simp only [List.length_set]; exact hi), List.set_set, List.set_set]
    rw [t]
    show (if acc.length < LN then lcL none (tgV i) yesT (kE x) [i] ws (acc ++ [.d x]) ⟨ρ.set i (.w w), h⟩ else none) = _
    rw [if_pos (by omega), h2, List.append_assoc]
    rfl
def z0 (n : Nat) : Ss := List.replicate n (some 0)
theorem z0_map (n : Nat) : (z0 n).map oD = List.replicate n (.d (.int 0)) := by unfold z0; rw [List.map_replicate]; rfl
abbrev AR (call : Call) : Mn.St := retS (callH call 3 (asC (vE 1) (asC (vE 3) (asC (vE 6) (asN)))))
/-- what falling_round tells of a ring -/
structure Ring (n : Nat) (es : List Ed) (tl : List Nat) (x : X) (L c : Nat) : Prop where
  inv : Inv n es (n + 2) 0 x
  pos : 0 < L
  cyc : it (pr es x) L c = c
  min : ∀ i, 0 < i → i < L → it (pr es x) i c ≠ c
  par : ∀ m, x.par (it (pr es x) m c) ≠ none
  eq : tl = told x (pr es x) L c
theorem thawO_rt {j : Nat} {kvs : List (D × W)} {x : W} {s s1 : S} (h : thaw j kvs s = some s1) : thawO j kvs (.rt (.w x) s) = .rt (.w x) s1 := by
  simp only [thawO, h]
theorem call_t (k j ps n : Nat) (B : Call → Mn.St) (ws : List W) (h : List O) (e : fns[j]? = some ⟨ps, n, B⟩) (hl : ws.length = ps) : callF fns (k + 1) j ws h = outF (B (callF fns k) ⟨ws.map E0.w ++ List.replicate (n - ps) E0.un, h⟩) := call_s k j ⟨ps, n, B⟩ ws h e hl
theorem call4 (kk n : Nat) (es : List Ed) : callF fns (kk + 1) 4 [.d (.int n), eT es] [] = outF (B4 (callF fns kk) ⟨[.w (.d (.int n)), .w (eT es), .un, .un, .un, .un, .un], []⟩) := by
  have e : [W.d (.int n), eT es].map E0.w ++ List.replicate (7 - 2) E0.un = [.w (.d (.int n)), .w (eT es), .un, .un, .un, .un, .un] := rfl
  have c := call_t kk 4 2 7 B4 [W.d (.int n), eT es] [] rfl rfl
  rw [← e]
  exact c
theorem falling_sp (k n : Nat) (es : List Ed) (ok : Ok n es) (hl : es.length < LN) (hn : n < 1000) :
    (mvd es (rn es n (z0 n)) = false ∧ ∃ h, callF fns (k + 2) 4 [.d (.int n), eT es] [] = .ok (.w (.d .non)) h) ∨
    (mvd es (rn es n (z0 n)) = true ∧ ∃ h tl x L c, callF fns (k + 2) 4 [.d (.int n), eT es] [] = .ok (.w (.d (.tup (tl.map fun p : Nat => D.int (p : Nat))))) h ∧ Ring n es tl x L c) := by
  have hz : (z0 n).length = n := by unfold z0; exact List.length_replicate
  have base : ∃ g ah e5 e6 h, fns[4]? = some ⟨2, 7, B4⟩ ∧ h[g]? = some (.dct false (lwOf 0 es (rn es n (z0 n)) [])) ∧ AH ah (rounds es (n + 1) (X0 (z0 n))) ∧ KN n ah ∧
      B4 (callF fns (k + 1)) ⟨[.w (.d (.int n)), .w (eT es), .un, .un, .un, .un, .un], []⟩ = (seqS (forD 4 (tgV 6) (AR (callF fns (k + 1)))) (retS (kE .non))) ⟨[.w (.d (.int n)), .w (eT es), .w (.ref 0), .own (.dct false ah), .w (.ref g), e5, e6], h⟩ := by
    obtain ⟨w0, wt, hw, hwl⟩ : ∃ w0 wt, uptoN 0 (n + 1) = w0 :: wt ∧ wt.length = n := by
      have := upto_len 0 (n + 1)
      cases q : uptoN 0 (n + 1) with
      | nil => rw [q] at this; simp at this
      | cons a b => rw [q] at this; exact ⟨a, b, rfl, by simpa using this⟩
    obtain ⟨g, ah, e5, e6, h, L, lg, la, lk⟩ := fr_loop (kk := k) hz ok hl hn wt w0 0 (.own (.lst ((z0 n).map oD))) (.own (.dct false [])) .un .un [] [] (.inl ⟨rfl, rfl⟩) (fun v => rfl) ⟨by simp, fun q hq => by cases hq⟩
    rw [hwl, Nat.zero_add] at lg la
    refine ⟨g, ah, e5, e6, h, rfl, lg, la, lk, ?_⟩
    obtain ⟨e', f', C⟩ := lc_const (x := .int 0) (ρ := [.w (.d (.int n)), .w (eT es), .un, .un, .un, .un, .un]) (i := 5) (h := []) (by show 5 < 7; omega) (uptoN 0 n) [] .un rfl (by rw [upto_len]; show 0 + n < 16777216; omega)
    rw [upto_len, List.nil_append] at C
    have i0 : itR1 (vE 0) ⟨[.w (.d (.int n)), .w (eT es), .un, .un, .un, .un, .un], []⟩ = .ok ⟨uptoN 0 n, none⟩ ⟨[.w (.d (.int n)), .w (eT es), .un, .un, .un, .un, .un], []⟩ := by
      have := itR1_ev (a := vE 0) (s := ⟨[.w (.d (.int n)), .w (eT es), .un, .un, .un, .un, .un], []⟩) (m := (n : Int)) rfl (small_ok (by omega) (by omega))
      rw [Int.toNat_natCast] at this
      exact this
    have l0 : lcE (itR1 (vE 0)) (tgV 5) yesT (kE (.int 0)) [5] ⟨[.w (.d (.int n)), .w (eT es), .un, .un, .un, .un, .un], []⟩ = .ok (.new (.lst ((z0 n).map oD))) ⟨[.w (.d (.int n)), .w (eT es), .un, .un, .un, .un, .un], []⟩ := by
      unfold lcE
      rw [i0]
      simp only [Res.bind_ok]
      have C : lcL none (tgV 5) yesT (kE (.int 0)) [5] (uptoN 0 n) [] ⟨[.w (.d (.int n)), .w (eT es), .un, .un, .un, .un, .un], []⟩ = some (List.replicate n (.d (.int 0)), ⟨[.w (.d (.int n)), .w (eT es), .un, .un, .un, e', .un], []⟩) := C
      rw [C, z0_map]
      rfl
    have i1 : itR1 (op2 addV (vE 0) (kE (.int 1))) ⟨[.w (.d (.int n)), .w (eT es), .own (.lst ((z0 n).map oD)), .own (.dct false []), .own (.dct false []), .un, .un], []⟩ = .ok ⟨uptoN 0 (n + 1), none⟩ ⟨[.w (.d (.int n)), .w (eT es), .own (.lst ((z0 n).map oD)), .own (.dct false []), .own (.dct false []), .un, .un], []⟩ := by
      have := itR1_ev (a := op2 addV (vE 0) (kE (.int 1))) (s := ⟨[.w (.d (.int n)), .w (eT es), .own (.lst ((z0 n).map oD)), .own (.dct false []), .own (.dct false []), .un, .un], []⟩) (m := (n : Int) + 1) rfl (small_ok (by omega) (by omega))
      rw [show ((n : Int) + 1).toNat = n + 1 by omega] at this
      exact this
    exact seq_nx (set_ev l0 rfl) (seq_nx rfl (seq_nx rfl (seq_nx (for_ev i1 (by rw [hw]; exact L)) rfl)))
  obtain ⟨g, ah, e5, e6, h, hf, hg, ha, ka, hB⟩ := base
  generalize hlw : lwOf 0 es (rn es n (z0 n)) [] = lw at hg
  have hgl : g < h.length := (List.getElem?_eq_some_iff.mp hg).1
  have frz : (h.set g (.dct true lw))[g]? = some (.dct true lw) := List.getElem?_set_self hgl
  have fD : forD 4 (tgV 6) (AR (callF fns (k + 1))) ⟨[.w (.d (.int n)), .w (eT es), .w (.ref 0), .own (.dct false ah), .w (.ref g), e5, e6], h⟩ = thawO g lw (forL (some (g, .dct true lw)) (tgV 6) (AR (callF fns (k + 1))) (lw.map fun q : D × W => W.d q.1) ⟨[.w (.d (.int n)), .w (eT es), .w (.ref 0), .own (.dct false ah), .w (.ref g), e5, e6], h.set g (.dct true lw)⟩) := by
    show (match h[g]? with
      | some (.dct false kvs) => thawO g kvs (forL (some (g, .dct true kvs)) (tgV 6) (AR (callF fns (k + 1))) (kvs.map fun q : D × W => W.d q.1) ⟨[.w (.d (.int n)), .w (eT es), .w (.ref 0), .own (.dct false ah), .w (.ref g), e5, e6], h.set g (O.dct true kvs)⟩)
      | _ => .bad) = _
    rw [hg]
  have start : callF fns (k + 2) 4 [.d (.int n), eT es] [] = outF ((seqS (forD 4 (tgV 6) (AR (callF fns (k + 1)))) (retS (kE .non))) ⟨[.w (.d (.int n)), .w (eT es), .w (.ref 0), .own (.dct false ah), .w (.ref g), e5, e6], h⟩) := by
    exact (call4 (k + 1) n es).trans (congrArg outF hB)
  cases q : mvd es (rn es n (z0 n)) with
  | false =>
    left
    refine ⟨rfl, h, ?_⟩
    rw [lw_nil q] at hlw
    subst hlw
    have T : forD 4 (tgV 6) (AR (callF fns (k + 1))) ⟨[.w (.d (.int n)), .w (eT es), .w (.ref 0), .own (.dct false ah), .w (.ref g), e5, e6], h⟩ = .nx ⟨[.w (.d (.int n)), .w (eT es), .w (.ref 0), .own (.dct false ah), .w (.ref g), e5, e6], h⟩ := by
      rw [fD]
      show thawO g [] (forL (some (g, .dct true [])) (tgV 6) (AR (callF fns (k + 1))) [] _) = _
      rw [forL_nil (by simp only [kept, decide_eq_true_eq]; exact frz)]
      show ofOpt (thaw g [] ⟨_, h.set g (.dct true [])⟩) = _
      unfold thaw
      rw [if_pos frz]
      simp only [List.set_set]
      have same : h.set g (.dct false []) = h := by
        obtain ⟨hlt, e⟩ := List.getElem?_eq_some_iff.mp hg
        rw [← e]; exact List.set_getElem_self hlt
      rw [same]
      rfl
    rw [start, seq_nx T rfl]
    rfl
  | true =>
    right
    refine ⟨rfl, ?_⟩
    have hz : (z0 n).length = n := by unfold z0; exact List.length_replicate
    have m : mvd es (rounds es n (X0 (z0 n))).s = true := by rw [rounds_s]; exact q
    have P := lw_run (r := n + 1) (x0 := rounds es n (X0 (z0 n))) es 0 (rounds es n (X0 (z0 n))) [] (fun v => ⟨fun e => by
      have := rounds_rd ok hz n v
      omega, fun _ => ⟨rfl, rfl⟩⟩)
    rw [rounds_s, hlw] at P
    have kl : KN n lw := by rw [← hlw]; exact kn_lw es 0 _ _ ok ⟨by simp, fun q hq => by cases hq⟩
    -- the dict is not empty
    obtain ⟨v1, hv1⟩ := run_mv (n + 1) es 0 _ m
    obtain ⟨p1, hp1, _⟩ := (P v1).1 hv1
    cases lw with
    | nil => cases hp1
    | cons y lw =>
      obtain ⟨v, hv, ey⟩ := kl.2 y List.mem_cons_self
      obtain ⟨yk, yw⟩ := y
      simp only at ey
      subst ey
      have rdv : (run (n + 1) 0 es (rounds es n (X0 (z0 n)))).rd v = n + 1 := by
        by_cases e : (run (n + 1) 0 es (rounds es n (X0 (z0 n)))).rd v = n + 1
        · exact e
        · have := ((P v).2 e).1
          simp [look] at this
      have I := inv_rounds ok hz (n + 1)
      obtain ⟨ring, par⟩ := orbit ok I rdv
      have he2 : ((h.set g (.dct true ((.int (v : Nat), yw) :: lw))) ++ [O.dct false ah])[(h.set g (.dct true ((.int (v : Nat), yw) :: lw))).length]? = some (.dct false ah) := by simp
      obtain ⟨L, c, l1, l2, l3, l4, R⟩ := through_sp k (v := v) I ha he2 par (by omega) ring
      have C : AR (callF fns (k + 1)) ⟨[.w (.d (.int n)), .w (eT es), .w (.ref 0), .own (.dct false ah), .w (.ref g), e5, .w (iW v)], h.set g (.dct true ((.int (v : Nat), yw) :: lw))⟩ = .rt (.w (.d (.tup ((told (rounds es (n + 1) (X0 (z0 n))) (pr es (rounds es (n + 1) (X0 (z0 n)))) L c).map fun p : Nat => D.int (p : Nat)))))
          ⟨[.w (.d (.int n)), .w (eT es), .w (.ref 0), .w (.ref (h.set g (.dct true ((.int (v : Nat), yw) :: lw))).length), .w (.ref g), e5, .w (iW v)], (h.set g (.dct true ((.int (v : Nat), yw) :: lw))) ++ [O.dct false ah]⟩ :=
        ret_ev ((callH_ev (asC_ev rfl (asC_ev rfl (asC_ev rfl asN_ev))) rfl (callV_n rfl R)).trans rfl)
      refine ⟨((h.set g (.dct true ((.int (v : Nat), yw) :: lw))) ++ [O.dct false ah]).set g (.dct false ((.int (v : Nat), yw) :: lw)), _, rounds es (n + 1) (X0 (z0 n)), L, c, ?_, ⟨I, l1, l2, l3, l4, rfl⟩⟩
      · have fz2 : ((h.set g (.dct true ((.int (v : Nat), yw) :: lw))) ++ [O.dct false ah])[g]? = some (.dct true ((.int (v : Nat), yw) :: lw)) := by
          rw [List.getElem?_append_left (by rw [List.length_set]; exact hgl)]
          exact frz
        have T : forD 4 (tgV 6) (AR (callF fns (k + 1))) ⟨[.w (.d (.int n)), .w (eT es), .w (.ref 0), .own (.dct false ah), .w (.ref g), e5, e6], h⟩ = .rt (.w (.d (.tup ((told (rounds es (n + 1) (X0 (z0 n))) (pr es (rounds es (n + 1) (X0 (z0 n)))) L c).map fun p : Nat => D.int (p : Nat)))))
            ⟨[.w (.d (.int n)), .w (eT es), .w (.ref 0), .w (.ref (h.set g (.dct true ((.int (v : Nat), yw) :: lw))).length), .w (.ref g), e5, .w (iW v)], ((h.set g (.dct true ((.int (v : Nat), yw) :: lw))) ++ [O.dct false ah]).set g (.dct false ((.int (v : Nat), yw) :: lw))⟩ := by
          rw [fD, List.map_cons, forL_rt (by simp only [kept, decide_eq_true_eq]; exact frz) rfl C]
          refine thawO_rt ?_
          unfold thaw
          rw [if_pos fz2]
        rw [start, seq_rt T]
        rfl
end HeadT

set_option linter.all false
set_option maxRecDepth 100000
set_option maxHeartbeats 1000000
namespace HeadT
open Mn BF
theorem dput_pos {l : List (D × W)} {k : D} {w : W} : 0 < (dput l k w).length ∧ l.length ≤ (dput l k w).length := by
  unfold dput
  by_cases h : (l.any fun q => decide (q.1 = k)) = true
  · rw [if_pos h, List.length_map]
    refine ⟨?_, Nat.le_refl _⟩
    cases l with
    | nil => cases h
    | cons a l => simp
  · rw [if_neg h, List.length_append]
    simp
theorem lw_le : ∀ (es : List Ed) (i : Nat) (s : Ss) (l : List (D × W)), l.length ≤ (lwOf i es s l).length
  | [], _, _, _ => Nat.le_refl _
  | e :: es, i, s, l => by
    show l.length ≤ (match low s e with
      | some _ => lwOf (i + 1) es (rx s e) (dput l (.int e.2.1) (.d (.int i)))
      | none => lwOf (i + 1) es s l).length
    cases low s e with
    | none => exact lw_le es _ _ _
    | some y => exact Nat.le_trans dput_pos.2 (lw_le es _ _ _)
theorem lw_pos : ∀ (es : List Ed) (i : Nat) (s : Ss) (l : List (D × W)), mvd es s = true → 0 < (lwOf i es s l).length
  | [], _, _, _, h => nomatch h
  | e :: es, i, s, l, h => by
    have h : ((low s e).isSome || mvd es (rx s e)) = true := h
    show 0 < (match low s e with
      | some _ => lwOf (i + 1) es (rx s e) (dput l (.int e.2.1) (.d (.int i)))
      | none => lwOf (i + 1) es s l).length
    cases q : low s e with
    | none =>
      have er : rx s e = s := by unfold rx; rw [q]
      rw [q, er] at h
      exact lw_pos es _ _ _ (by simpa using h)
    | some y => exact Nat.lt_of_lt_of_le dput_pos.1 (lw_le es _ _ _)
abbrev WB (call : Call) : Mn.St := setS 4 (op2 gtV (op1 lenV (callH call 2 (asC (vE 3) (asC (vE 1) (asN))))) (kE (.int 0)))
theorem lw_turn {k n : Nat} {a0 a2 : W} {es : List Ed} {s : Ss} {e3 e4 e5 : E0} {h : List O} (hs : SumAt e3 h s) (ok : Ok s.length es) (hl : es.length < LN) :
    ∃ h', WB (callF fns (k + 1)) ⟨[.w a0, .w (eT es), .w a2, e3, e4, e5], h⟩ = .nx ⟨[.w a0, .w (eT es), .w a2, .w (.ref 0), .w (.d (.bl (mvd es s))), e5], h'⟩ ∧ h'[0]? = some (.lst ((rnd es s).map oD)) := by
  obtain ⟨h2, hb, h20⟩ : ∃ h2, (∃ rs, asC (vE 3) (asC (vE 1) asN) ⟨[.w a0, .w (eT es), .w a2, e3, e4, e5], h⟩ = .ok rs ⟨[.w a0, .w (eT es), .w a2, e3, e4, e5], h⟩ ∧
      boxes rs ⟨[.w a0, .w (eT es), .w a2, e3, e4, e5], h⟩ = some ([.ref 0, eT es], ⟨[.w a0, .w (eT es), .w a2, .w (.ref 0), e4, e5], h2⟩)) ∧ h2[0]? = some (.lst (s.map oD)) := by
    rcases hs with ⟨rfl, rfl⟩ | ⟨rfl, h0⟩
    · exact ⟨[.lst (s.map oD)], ⟨_, rfl, rfl⟩, rfl⟩
    · exact ⟨h, ⟨_, rfl, rfl⟩, h0⟩
  obtain ⟨rs, hb1, hb2⟩ := hb
  have S := settle_sp k 0 es s h2 h20 ok hl
  have h0l : 0 < h2.length := (List.getElem?_eq_some_iff.mp h20).1
  have C : callH (callF fns (k + 1)) 2 (asC (vE 3) (asC (vE 1) asN)) ⟨[.w a0, .w (eT es), .w a2, e3, e4, e5], h⟩ = .ok (.new (.dct false (lwOf 0 es s []))) ⟨[.w a0, .w (eT es), .w a2, .w (.ref 0), e4, e5], h2.set 0 (.lst ((rnd es s).map oD))⟩ :=
    callH_ev hb1 hb2 ((callV_n rfl S).trans rfl)
  refine ⟨h2.set 0 (.lst ((rnd es s).map oD)), ?_, List.getElem?_set_self h0l⟩
  refine set_ev (x := bR (mvd es s)) (op2_ev (op1_ev C rfl) rfl ?_) rfl
  show some (bR (decide ((0 : Int) < ((lwOf 0 es s []).length : Int)))) = _
  cases q : mvd es s with
  | true => rw [decide_eq_true (by have := lw_pos es 0 s [] q; omega)]
  | false => rw [lw_nil q]; rfl
theorem lw_while {k n : Nat} {a0 a2 : W} {es : List Ed} {t : Ss} {e5 : E0} (hl : es.length < LN) : ∀ (K : Nat) (s : Ss) (F : Nat) (e3 : E0) (h : List O), stl es K s = some t → K < F → SumAt e3 h s → Ok s.length es →
    ∃ h', whileN (tst (vE 4)) (WB (callF fns (k + 1))) F ⟨[.w a0, .w (eT es), .w a2, e3, .w (.d (.bl true)), e5], h⟩ = .nx ⟨[.w a0, .w (eT es), .w a2, .w (.ref 0), .w (.d (.bl false)), e5], h'⟩ ∧ h'[0]? = some (.lst (t.map oD))
  | 0, s, F, e3, h, hs, _, _, _ => nomatch hs
  | K + 1, s, F, e3, h, hs, hF, sa, ok => by
    obtain ⟨F, rfl⟩ : ∃ m, F = m + 1 := ⟨F - 1, by omega⟩
    obtain ⟨h', T, t0⟩ := lw_turn (k := k) (n := n) (a0 := a0) (a2 := a2) (e4 := .w (.d (.bl true))) (e5 := e5) sa ok hl
    have hs : (if mvd es s then stl es K (rnd es s) else some s) = some t := hs
    cases q : mvd es s with
    | true =>
      rw [q] at hs T
      obtain ⟨h2, I, i0⟩ := lw_while (k := k) (n := n) (a0 := a0) (a2 := a2) (e5 := e5) hl K (rnd es s) F (.w (.ref 0)) h' hs (by omega) (.inr ⟨rfl, t0⟩) (by rw [rnd_len]; exact ok)
      exact ⟨h2, while_t rfl T I, i0⟩
    | false =>
      rw [q] at hs T
      have hs : s = t := Option.some.inj hs
      subst hs
      rw [(mvd_no es s q).1] at t0
      obtain ⟨F, rfl⟩ : ∃ m, F = m + 1 := ⟨F - 1, by omega⟩
      exact ⟨h', while_t rfl T (while_f rfl), t0⟩
def bg (n c : Nat) : Ss := (List.replicate n none).set c (some 0)
theorem least_sp (k n c K : Nat) (es : List Ed) (t : Ss) (ok : Ok n es) (hl : es.length < LN) (hn : n < 1000) (hc : c < n) (hK : K ≤ 2000) (hs : stl es K (bg n c) = some t) :
    ∃ h, callF fns (k + 2) 5 [.d (.int n), eT es, .d (.int (c : Nat))] [] = .ok (.w (tW (some t))) h := by
  obtain ⟨e', f', C⟩ := lc_const (x := .non) (ρ := [.w (.d (.int n)), .w (eT es), .w (.d (.int (c : Nat))), .un, .un, .un]) (i := 5) (h := []) (by show 5 < 6; omega) (uptoN 0 n) [] .un rfl (by rw [upto_len]; show 0 + n < 16777216; omega)
  rw [upto_len, List.nil_append] at C
  have i0 : itR1 (vE 0) ⟨[.w (.d (.int n)), .w (eT es), .w (.d (.int (c : Nat))), .un, .un, .un], []⟩ = .ok ⟨uptoN 0 n, none⟩ ⟨[.w (.d (.int n)), .w (eT es), .w (.d (.int (c : Nat))), .un, .un, .un], []⟩ := by
    have := itR1_ev (a := vE 0) (s := ⟨[.w (.d (.int n)), .w (eT es), .w (.d (.int (c : Nat))), .un, .un, .un], []⟩) (m := (n : Int)) rfl (small_ok (by omega) (by omega))
    rw [Int.toNat_natCast] at this
    exact this
  have l0 : lcE (itR1 (vE 0)) (tgV 5) yesT (kE .non) [5] ⟨[.w (.d (.int n)), .w (eT es), .w (.d (.int (c : Nat))), .un, .un, .un], []⟩ = .ok (.new (.lst (List.replicate n (.d .non)))) ⟨[.w (.d (.int n)), .w (eT es), .w (.d (.int (c : Nat))), .un, .un, .un], []⟩ := by
    unfold lcE
    rw [i0]
    simp only [Res.bind_ok]
    have C : lcL none (tgV 5) yesT (kE .non) [5] (uptoN 0 n) [] ⟨[.w (.d (.int n)), .w (eT es), .w (.d (.int (c : Nat))), .un, .un, .un], []⟩ = some (List.replicate n (.d .non), ⟨[.w (.d (.int n)), .w (eT es), .w (.d (.int (c : Nat))), .un, .un, e'], []⟩) := C
    rw [C]
    rfl
  have bm : (bg n c).map oD = (List.replicate n (.d .non)).set c (.d (.int 0)) := by unfold bg; rw [List.map_set, List.map_replicate]; rfl
  have bl : (bg n c).length = n := by unfold bg; rw [List.length_set, List.length_replicate]
  obtain ⟨h', I, i1⟩ := lw_while (k := k) (n := n) (a0 := .d (.int n)) (a2 := .d (.int (c : Nat))) (e5 := .un) hl K (bg n c) WN (.own (.lst ((bg n c).map oD))) [] hs (by show K < 2 ^ 40; omega) (.inl ⟨rfl, rfl⟩) (by rw [bl]; exact ok)
  have P : putS (vE 3) (vE 2) (kE (.int 0)) ⟨[.w (.d (.int n)), .w (eT es), .w (.d (.int (c : Nat))), .own (.lst (List.replicate n (.d .non))), .un, .un], []⟩ = .nx ⟨[.w (.d (.int n)), .w (eT es), .w (.d (.int (c : Nat))), .own (.lst ((bg n c).map oD)), .un, .un], []⟩ := by
    rw [bm]
    exact put_ev rfl rfl rfl rfl (put_slot rfl (by rw [List.length_replicate]; exact hc))
  refine ⟨h', ?_⟩
  have c0 := call_t (k + 1) 5 3 6 B5 [W.d (.int n), eT es, .d (.int (c : Nat))] [] rfl rfl
  have e : [W.d (.int n), eT es, .d (.int (c : Nat))].map E0.w ++ List.replicate (6 - 3) E0.un = [.w (.d (.int n)), .w (eT es), .w (.d (.int (c : Nat))), .un, .un, .un] := rfl
  rw [e] at c0
  have B : B5 (callF fns (k + 1)) ⟨[.w (.d (.int n)), .w (eT es), .w (.d (.int (c : Nat))), .un, .un, .un], []⟩ = .rt (.w (tW (some t))) ⟨[.w (.d (.int n)), .w (eT es), .w (.d (.int (c : Nat))), .w (.ref 0), .w (.d (.bl false)), .un], h'⟩ := by
    refine seq_nx (set_ev l0 rfl) (seq_nx P (seq_nx rfl (seq_nx I (ret_ev (op1_ev rfl ?_)))))
    show (seqR _ (.w (.ref 0))).map (fun p => R.w (mkTup p.2)) = _
    rw [seq_ref (ws := t.map oD) i1]
    show some (R.w (mkTup (t.map oD))) = _
    rw [oD_map, mkTup_map]
    rfl
  rw [B] at c0
  exact c0
end HeadT

set_option linter.all false
set_option maxRecDepth 100000
set_option maxHeartbeats 1000000
namespace HeadT
open Mn BF
/-- a comprehension whose items are data -/
theorem lc_map {t : Tg} {c : Tm} {e : Ex} {vs : List Nat} {h : List O} {G : List E0 → Prop} {f : W → Option D} (fr : ∀ ρ, G ρ → frees vs ⟨ρ, h⟩ = true) : ∀ (ws acc : List W) (ρ : List E0), G ρ →
    (∀ w ∈ ws, ∀ ρ, G ρ → ∃ ρ1 ρ2, t (.w w) ⟨Mn.wipe vs ρ, h⟩ = some ⟨ρ1, h⟩ ∧ G ρ2 ∧ ((f w = none ∧ c ⟨ρ1, h⟩ = .ok false ⟨ρ2, h⟩) ∨ (∃ x ρ3, f w = some x ∧ c ⟨ρ1, h⟩ = .ok true ⟨ρ3, h⟩ ∧ e ⟨ρ3, h⟩ = .ok (.w (.d x)) ⟨ρ2, h⟩))) → acc.length + ws.length < LN →
    ∃ ρ', G ρ' ∧ lcL none t c e vs ws acc ⟨ρ, h⟩ = some (acc ++ (ws.filterMap f).map W.d, ⟨ρ', h⟩)
  | [], acc, ρ, g, _, _ => by
    refine ⟨ρ, g, ?_⟩
    unfold lcL
    rw [if_pos (by rw [fr ρ g]; rfl)]
    simp
  | w :: ws, acc, ρ, g, st, hl => by
    simp only [List.length_cons] at hl
    obtain ⟨ρ1, ρ2, h1, g2, h3⟩ := st w List.mem_cons_self ρ g
    unfold lcL
    rw [if_pos (by rw [fr ρ g]; rfl)]
    have h1 : t (.w w) ⟨Mn.wipe vs ρ, h⟩ = some ⟨ρ1, h⟩ := h1
    rcases h3 with ⟨f0, c0⟩ | ⟨x, ρ3, f0, c0, e0⟩
    · obtain ⟨ρ', g', I⟩ := lc_map (c := c) (e := e) fr ws acc ρ2 g2 (fun w hw => st w (List.mem_cons_of_mem _ hw)) (by omega)
      refine ⟨ρ', g', ?_⟩
      rw [h1]
      simp only
      rw [c0]
      simp only
      rw [I, List.filterMap_cons_none f0]
    · obtain ⟨ρ', g', I⟩ := lc_map (c := c) (e := e) fr ws (acc ++ [.d x]) ρ2 g2 (fun w hw => st w (List.mem_cons_of_mem _ hw)) (by rw [List.length_append]; simp only [List.length_cons, List.length_nil]; omega)
      refine ⟨ρ', g', ?_⟩
      rw [h1]
      simp only
      rw [c0]
      simp only
      rw [e0]
      show (if acc.length < LN then lcL none t c e vs ws (acc ++ [.d x]) ⟨ρ2, h⟩ else none) = _
      rw [if_pos (by omega), I, List.filterMap_cons_some f0, List.append_assoc]
      rfl
def isTup (n : Nat) : D → Bool
  | .tup xs => decide (xs.length = n)
  | _ => false
theorem istup_sp (k n : Nat) (x : D) : callF fns (k + 1) 1 [.d x, .d (.int (n : Nat))] [] = .ok (bR (isTup n x)) [] := by
  cases x with
  | non => rfl
  | bl b => rfl
  | int i => rfl
  | str s => rfl
  | tup xs =>
    have c0 := call_t k 1 2 2 B1 [W.d (.tup xs), .d (.int (n : Nat))] [] rfl rfl
    have e : [W.d (.tup xs), .d (.int (n : Nat))].map E0.w ++ List.replicate (2 - 2) E0.un = [.w (.d (.tup xs)), .w (.d (.int (n : Nat)))] := rfl
    rw [e] at c0
    rw [c0]
    have B : B1 (callF fns k) ⟨[.w (.d (.tup xs)), .w (.d (.int (n : Nat)))], []⟩ = .rt (bR (decide (xs.length = n))) ⟨[.w (.d (.tup xs)), .w (.d (.int (n : Nat)))], []⟩ := by
      refine ret_ev (andE_t (x := bR true) rfl rfl (op2_ev (x := iR (xs.length : Nat)) (op1_ev rfl ?_) rfl ?_))
      · show some (iR ((xs.map W.d).length : Nat)) = _
        rw [List.length_map]
      · show some (bR (((xs.length : Nat) : Int) == ((n : Nat) : Int))) = _
        by_cases q : xs.length = n
        · subst q; simp
        · have h1 : (((xs.length : Nat) : Int) == ((n : Nat) : Int)) = false := beq_eq_false_iff_ne.mpr fun z => q (Int.ofNat.inj z)
          rw [h1, decide_eq_false q]
    rw [B]
    rfl
end HeadT

set_option linter.all false
set_option maxRecDepth 100000
set_option maxHeartbeats 1000000
namespace HeadT
open Mn BF
theorem all_new {s : S} {bs : List Bool} {a : Ex} {s1 : S} (h : a s = .ok (.new (.lst ((bs.map D.bl).map W.d))) s1) : op1 allV a s = .ok (bR (bs.all id)) s1 := by
  refine op1_ev h ?_
  show ((alld ((bs.map D.bl).map W.d)).bind bls).map (fun bs : List Bool => bR (bs.all id)) = _
  rw [alld_map]
  show ((bls (bs.map D.bl))).map (fun bs : List Bool => bR (bs.all id)) = _
  rw [bls_map]
  rfl
def fI : W → Option D
  | .d x => some (.bl (isInt x))
  | _ => some .non
theorem fI_map (xs : List D) : (xs.map W.d).filterMap fI = (xs.map isInt).map D.bl := by
  induction xs with
  | nil => rfl
  | cons x xs ih => rw [List.map_cons, List.filterMap_cons_some (f := fI) (b := .bl (isInt x)) rfl, ih]; rfl
/-- all([is_integer(number) for number in thing]) -/
theorem allint_ev (k n : Nat) (es : List Ed) (xs : List D) (hx : xs.length < 1000) :
    op1 allV (lcE (itE (vE 2)) (tgV 6) yesT (callH (callF fns (k + 1)) 0 (asC (vE 6) asN)) [6]) ⟨[.w (.d (.int n)), .w (eT es), .w (.d (.tup xs)), .un, .un, .un, .un], []⟩ = .ok (bR (xs.all isInt)) ⟨[.w (.d (.int n)), .w (eT es), .w (.d (.tup xs)), .un, .un, .un, .un], []⟩ := by
  obtain ⟨ρ', ⟨e6, f6, rfl⟩, C⟩ := lc_map (t := tgV 6) (c := yesT) (e := callH (callF fns (k + 1)) 0 (asC (vE 6) asN)) (vs := [6]) (h := []) (f := fI) (G := fun ρ => ∃ e6 : E0, e6.free = true ∧ ρ = [.w (.d (.int n)), .w (eT es), .w (.d (.tup xs)), .un, .un, .un, e6])
    (fun ρ ⟨e6, f6, e⟩ => by
      subst e
      show ([6].all fun v => (List.getD [E0.w (.d (.int n)), .w (eT es), .w (.d (.tup xs)), .un, .un, .un, e6] v .un).free) = true
      simp only [List.all_cons, List.all_nil, Bool.and_true]
      exact f6) (xs.map W.d) [] [.w (.d (.int n)), .w (eT es), .w (.d (.tup xs)), .un, .un, .un, .un] ⟨.un, rfl, rfl⟩ (fun w hw ρ ⟨e6, f6, e⟩ => by
      subst e
      obtain ⟨x, _, rfl⟩ := List.mem_map.mp hw
      refine ⟨[.w (.d (.int n)), .w (eT es), .w (.d (.tup xs)), .un, .un, .un, .w (.d x)], [.w (.d (.int n)), .w (eT es), .w (.d (.tup xs)), .un, .un, .un, .w (.d x)], rfl, ⟨_, rfl, rfl⟩, .inr ⟨_, _, rfl, rfl, ?_⟩⟩
      exact callH_ev (asC_ev rfl asN_ev) rfl (callV_p rfl (sp0 k x []) rfl)) (by rw [List.length_map]; show 0 + xs.length < 16777216; omega)
  rw [List.nil_append, fI_map] at C
  have L : lcE (itE (vE 2)) (tgV 6) yesT (callH (callF fns (k + 1)) 0 (asC (vE 6) asN)) [6] ⟨[.w (.d (.int n)), .w (eT es), .w (.d (.tup xs)), .un, .un, .un, .un], []⟩ = .ok (.new (.lst (((xs.map isInt).map D.bl).map W.d))) ⟨[.w (.d (.int n)), .w (eT es), .w (.d (.tup xs)), .un, .un, .un, .un], []⟩ := by
    unfold lcE
    have i0 : itE (vE 2) ⟨[.w (.d (.int n)), .w (eT es), .w (.d (.tup xs)), .un, .un, .un, .un], []⟩ = .ok ⟨xs.map W.d, none⟩ ⟨[.w (.d (.int n)), .w (eT es), .w (.d (.tup xs)), .un, .un, .un, .un], []⟩ := rfl
    rw [i0]
    simp only [Res.bind_ok]
    rw [C]
    rfl
  have := all_new L
  rw [List.all_map] at this
  exact this

def fP (p : List Int) : W → Option D
  | .d (.tup [.int u, .int v, .int x]) => some (.bl (decide (p.getD v.toNat 0 ≤ p.getD u.toNat 0 + x)))
  | _ => some .non
def potB (p : List Int) (e : Ed) : Bool := decide (p.getD e.2.1 0 ≤ p.getD e.1 0 + e.2.2)
theorem fP_map (p : List Int) (es : List Ed) : (es.map fun e => W.d (eD e)).filterMap (fP p) = (es.map (potB p)).map D.bl := by
  induction es with
  | nil => rfl
  | cons e es ih =>
    rw [List.map_cons, List.filterMap_cons_some (f := fP p) (b := .bl (potB p e)) (by
      obtain ⟨u, v, w⟩ := e
      show some (D.bl (decide (p.getD ((v : Nat) : Int).toNat 0 ≤ p.getD ((u : Nat) : Int).toNat 0 + w))) = _
      rw [Int.toNat_natCast, Int.toNat_natCast]
      rfl), ih]
    rfl
theorem p_get {p : List Int} {u : Nat} (h : u < p.length) : (p.map D.int)[u]? = some (.int (p.getD u 0)) := by
  rw [List.getElem?_map, List.getElem?_eq_getElem h, List.getD_eq_getElem?_getD, List.getElem?_eq_getElem h]
  rfl
/-- all([thing[one] + weight >= thing[other] for one, other, weight in edges]) -/
theorem potall_ev (n : Nat) (es : List Ed) (p : List Int) (hp : p.length = n) (ok : Ok n es) (hl : es.length < LN) {e6 : E0} :
    ∃ st, op1 allV (lcE (itE (vE 1)) (tgT [tgV 3, tgV 4, tgV 5]) yesT (op2 geV (op2 addV (op2 ixV (vE 2) (vE 3)) (vE 5)) (op2 ixV (vE 2) (vE 4))) [3, 4, 5]) ⟨[.w (.d (.int n)), .w (eT es), .w (.d (.tup (p.map D.int))), .un, .un, .un, e6], []⟩ = .ok (bR (es.all (potB p))) st ∧ st.h = [] := by
  obtain ⟨ρ', _, C⟩ := lc_map (t := tgT [tgV 3, tgV 4, tgV 5]) (c := yesT) (e := op2 geV (op2 addV (op2 ixV (vE 2) (vE 3)) (vE 5)) (op2 ixV (vE 2) (vE 4))) (vs := [3, 4, 5]) (h := []) (f := fP p) (G := fun ρ => ∃ a b c : E0, a.free = true ∧ b.free = true ∧ c.free = true ∧ ρ = [.w (.d (.int n)), .w (eT es), .w (.d (.tup (p.map D.int))), a, b, c, e6])
    (fun ρ ⟨a, b, c, fa, fb, fc, e⟩ => by
      subst e
      show ([3, 4, 5].all fun v => (List.getD [E0.w (.d (.int n)), .w (eT es), .w (.d (.tup (p.map D.int))), a, b, c, e6] v .un).free) = true
      simp only [List.all_cons, List.all_nil, Bool.and_true, Bool.and_eq_true]
      exact ⟨fa, fb, fc⟩) (es.map fun e => W.d (eD e)) [] [.w (.d (.int n)), .w (eT es), .w (.d (.tup (p.map D.int))), .un, .un, .un, e6] ⟨.un, .un, .un, rfl, rfl, rfl, rfl⟩ (fun w hw ρ ⟨a, b, c, fa, fb, fc, e⟩ => by
      subst e
      obtain ⟨⟨u, v, x⟩, hm, rfl⟩ := List.mem_map.mp hw
      have o := ok _ hm
      have i1 := op2_ev (a := vE 2) (b := vE 3) (s := ⟨[.w (.d (.int n)), .w (eT es), .w (.d (.tup (p.map D.int))), .w (.d (.int u)), .w (.d (.int v)), .w (.d (.int x)), e6], []⟩) rfl rfl (ix_tup (p_get (p := p) (by rw [hp]; exact o.1)))
      have i2 := op2_ev (a := vE 2) (b := vE 4) (s := ⟨[.w (.d (.int n)), .w (eT es), .w (.d (.tup (p.map D.int))), .w (.d (.int u)), .w (.d (.int v)), .w (.d (.int x)), e6], []⟩) rfl rfl (ix_tup (p_get (p := p) (by rw [hp]; exact o.2)))
      refine ⟨[.w (.d (.int n)), .w (eT es), .w (.d (.tup (p.map D.int))), .w (.d (.int u)), .w (.d (.int v)), .w (.d (.int x)), e6], [.w (.d (.int n)), .w (eT es), .w (.d (.tup (p.map D.int))), .w (.d (.int u)), .w (.d (.int v)), .w (.d (.int x)), e6], rfl, ⟨_, _, _, rfl, rfl, rfl, rfl⟩, .inr ⟨.bl (potB p (u, v, x)), _, ?_, rfl, ?_⟩⟩
      · show some (D.bl (decide (p.getD ((v : Nat) : Int).toNat 0 ≤ p.getD ((u : Nat) : Int).toNat 0 + x))) = _
        rw [Int.toNat_natCast, Int.toNat_natCast]
        rfl
      · exact op2_ev (op2_ev i1 rfl rfl) i2 rfl) (by rw [List.length_map]; show 0 + es.length < LN; omega)
  rw [List.nil_append, fP_map] at C
  have i0 : itE (vE 1) ⟨[.w (.d (.int n)), .w (eT es), .w (.d (.tup (p.map D.int))), .un, .un, .un, e6], []⟩ = .ok ⟨es.map fun e => W.d (eD e), none⟩ ⟨[.w (.d (.int n)), .w (eT es), .w (.d (.tup (p.map D.int))), .un, .un, .un, e6], []⟩ := by
    show Res.ok (⟨(es.map eD).map W.d, none⟩ : It) _ = _
    rw [List.map_map]
    rfl
  have L : lcE (itE (vE 1)) (tgT [tgV 3, tgV 4, tgV 5]) yesT (op2 geV (op2 addV (op2 ixV (vE 2) (vE 3)) (vE 5)) (op2 ixV (vE 2) (vE 4))) [3, 4, 5] ⟨[.w (.d (.int n)), .w (eT es), .w (.d (.tup (p.map D.int))), .un, .un, .un, e6], []⟩ = .ok (.new (.lst (((es.map (potB p)).map D.bl).map W.d))) ⟨restore [3, 4, 5] [.w (.d (.int n)), .w (eT es), .w (.d (.tup (p.map D.int))), .un, .un, .un, e6] ρ', []⟩ := by
    unfold lcE
    rw [i0]
    simp only [Res.bind_ok]
    rw [C]
  have := all_new L
  rw [List.all_map] at this
  exact ⟨_, this, rfl⟩

theorem ints_of : ∀ {xs : List D}, (xs.all isInt = true → ∃ p, intsD xs = some p ∧ xs = p.map D.int) ∧ (xs.all isInt = false → intsD xs = none)
  | [] => ⟨fun _ => ⟨[], rfl, rfl⟩, fun h => nomatch h⟩
  | x :: xs => by
    obtain ⟨h1, h2⟩ := ints_of (xs := xs)
    cases x with
    | int i =>
      refine ⟨fun h => ?_, fun h => ?_⟩
      · obtain ⟨p, e1, e2⟩ := h1 h
        exact ⟨i :: p, by show (intsD xs).map (i :: ·) = _; rw [e1]; rfl, by rw [List.map_cons, ← e2]⟩
      · show (intsD xs).map (i :: ·) = none
        rw [h2 h]
        rfl
    | non => exact ⟨fun h => (nomatch (show false = true from h)), fun _ => rfl⟩
    | bl _ => exact ⟨fun h => (nomatch (show false = true from h)), fun _ => rfl⟩
    | str _ => exact ⟨fun h => (nomatch (show false = true from h)), fun _ => rfl⟩
    | tup _ => exact ⟨fun h => (nomatch (show false = true from h)), fun _ => rfl⟩
def isPotB (n : Nat) (es : List Ed) : D → Bool
  | .tup xs => decide (xs.length = n) && (match intsD xs with
    | some p => es.all (potB p)
    | none => false)
  | _ => false
/-- is_potentials of data -/
theorem pot_sp (k n : Nat) (es : List Ed) (x : D) (ok : Ok n es) (hl : es.length < LN) (hn : n < 1000) :
    ∃ h, callF fns (k + 2) 6 [.d (.int n), eT es, .d x] [] = .ok (bR (isPotB n es x)) h := by
  have c0 := call_t (k + 1) 6 3 7 B6 [W.d (.int n), eT es, .d x] [] rfl rfl
  have e : [W.d (.int n), eT es, .d x].map E0.w ++ List.replicate (7 - 3) E0.un = [.w (.d (.int n)), .w (eT es), .w (.d x), .un, .un, .un, .un] := rfl
  rw [e] at c0
  rw [c0]
  have t1 : notT (tst (callH (callF fns (k + 1)) 1 (asC (vE 2) (asC (vE 0) asN)))) ⟨[.w (.d (.int n)), .w (eT es), .w (.d x), .un, .un, .un, .un], []⟩ = .ok (!isTup n x) ⟨[.w (.d (.int n)), .w (eT es), .w (.d x), .un, .un, .un, .un], []⟩ :=
    notT_ev (tst_b (callH_ev (asC_ev rfl (asC_ev rfl asN_ev)) rfl (callV_p rfl (istup_sp k n x) rfl)))
  by_cases ht : isTup n x = true
  · obtain ⟨xs, rfl, hx⟩ : ∃ xs, x = .tup xs ∧ xs.length = n := by
      cases x with
      | tup xs => exact ⟨xs, rfl, of_decide_eq_true ht⟩
      | non => cases ht
      | bl _ => cases ht
      | int _ => cases ht
      | str _ => cases ht
    rw [ht] at t1
    have t2 := allint_ev k n es xs (by omega)
    have ip : isPotB n es (.tup xs) = (match intsD xs with
      | some p => es.all (potB p)
      | none => false) := by
      show (decide (xs.length = n) && _) = _
      rw [decide_eq_true hx]
      rfl
    rw [ip]
    cases ha : xs.all isInt with
    | true =>
      obtain ⟨p, e1, e2⟩ := ints_of.1 ha
      subst e2
      rw [ha] at t2
      rw [e1]
      obtain ⟨st, A, hst⟩ := potall_ev n es p (by rw [← hx, List.length_map]) ok hl (e6 := .un)
      have B : B6 (callF fns (k + 1)) ⟨[.w (.d (.int n)), .w (eT es), .w (.d (.tup (p.map D.int))), .un, .un, .un, .un], []⟩ = .rt (bR (es.all (potB p))) st :=
        seq_nx (if_f (orT_f t1 (notT_ev (tst_b t2))) rfl) (ret_ev A)
      rw [B]
      exact ⟨st.h, rfl⟩
    | false =>
      rw [ha] at t2
      rw [ints_of.2 ha]
      have B : B6 (callF fns (k + 1)) ⟨[.w (.d (.int n)), .w (eT es), .w (.d (.tup xs)), .un, .un, .un, .un], []⟩ = .rt (bR false) ⟨[.w (.d (.int n)), .w (eT es), .w (.d (.tup xs)), .un, .un, .un, .un], []⟩ :=
        seq_rt (if_t (orT_f t1 (notT_ev (tst_b t2))) rfl)
      rw [B]
      exact ⟨[], rfl⟩
  · have ht : isTup n x = false := by simpa using ht
    rw [ht] at t1
    have ip : isPotB n es x = false := by
      cases x with
      | tup xs =>
        have : decide (xs.length = n) = false := ht
        show (decide (xs.length = n) && _) = false
        rw [this]
        rfl
      | non => rfl
      | bl _ => rfl
      | int _ => rfl
      | str _ => rfl
    rw [ip]
    have B : B6 (callF fns (k + 1)) ⟨[.w (.d (.int n)), .w (eT es), .w (.d x), .un, .un, .un, .un], []⟩ = .rt (bR false) ⟨[.w (.d (.int n)), .w (eT es), .w (.d x), .un, .un, .un, .un], []⟩ :=
      seq_rt (if_t (orT_t t1) rfl)
    rw [B]
    exact ⟨[], rfl⟩
end HeadT

set_option linter.all false
set_option maxRecDepth 100000
set_option maxHeartbeats 1000000
namespace HeadT
open Mn BF
theorem bool_sp (k : Nat) (a b : Bool) (h : List O) : callF fns (k + 1) 16 [.d (.bl a), .d (.bl b)] h = .ok (bR (a == b)) h := by
  cases a <;> cases b <;> rfl
def allInt (xs : List D) : Bool := xs.all isInt
/-- what _law_are_potentials keeps of the items: those that are no whole numbers -/
def fN : W → Option D
  | .d x => if isInt x then none else some x
  | _ => none
theorem fN_nil {xs : List D} : ((xs.map W.d).filterMap fN).isEmpty = xs.all isInt := by
  induction xs with
  | nil => rfl
  | cons x xs ih =>
    rw [List.map_cons, List.all_cons]
    cases q : isInt x with
    | true => rw [List.filterMap_cons_none (f := fN) (by show (if isInt x then none else some x) = none; rw [q]; rfl), ih]; rfl
    | false => rw [List.filterMap_cons_some (f := fN) (b := x) (by show (if isInt x then none else some x) = some x; rw [q]; rfl)]; rfl
def fQ (p : List Int) : W → Option D
  | .d (.tup [.int u, .int v, .int x]) => if x + p.getD u.toNat 0 < p.getD v.toNat 0 then some (.int 1) else none
  | _ => none
theorem fQ_nil (p : List Int) (es : List Ed) : ((es.map fun e => W.d (eD e)).filterMap (fQ p)).isEmpty = es.all (potB p) := by
  induction es with
  | nil => rfl
  | cons e es ih =>
    obtain ⟨u, v, w⟩ := e
    rw [List.map_cons, List.all_cons]
    have hq : fQ p (.d (eD (u, v, w))) = if w + p.getD u 0 < p.getD v 0 then some (.int 1) else none := by
      show (if w + p.getD ((u : Nat) : Int).toNat 0 < p.getD ((v : Nat) : Int).toNat 0 then some (D.int 1) else none) = _
      rw [Int.toNat_natCast, Int.toNat_natCast]
    by_cases q : w + p.getD u 0 < p.getD v 0
    · rw [if_pos q] at hq
      rw [List.filterMap_cons_some hq]
      have : potB p (u, v, w) = false := decide_eq_false (by simp only; omega)
      rw [this]
      rfl
    · rw [if_neg q] at hq
      rw [List.filterMap_cons_none hq, ih]
      have : potB p (u, v, w) = true := decide_eq_true (by simp only; omega)
      rw [this]
      rfl
theorem len_new {s : S} {ws : List W} {a : Ex} {s1 : S} (h : a s = .ok (.new (.lst ws)) s1) : op1 lenV a s = .ok (iR (ws.length : Nat)) s1 := op1_ev h rfl

abbrev CN : Tm := (orT (notT (tst (op1 (isiV .int) (vE 3)))) (tst (op1 (isiV .bool) (vE 3))))
theorem cn_ev {a0 a1 a2 : W} {b4 b5 : E0} {h : List O} (x : D) : CN ⟨[.w a0, .w a1, .w a2, .w (.d x), b4, b5], h⟩ = .ok (!isInt x) ⟨[.w a0, .w a1, .w a2, .w (.d x), b4, b5], h⟩ := by
  cases x <;> rfl
theorem lenN_ev (n : Nat) (es : List Ed) (xs : List D) (hx : xs.length < 1000) :
    op1 lenV (lcE (itE (vE 2)) (tgV 3) CN (vE 3) [3]) ⟨[.w (.d (.int n)), .w (eT es), .w (.d (.tup xs)), .un, .un, .un], []⟩ = .ok (iR (((xs.map W.d).filterMap fN).length : Nat)) ⟨[.w (.d (.int n)), .w (eT es), .w (.d (.tup xs)), .un, .un, .un], []⟩ := by
  obtain ⟨ρ', ⟨e3, f3, rfl⟩, C⟩ := lc_map (t := tgV 3) (c := CN) (e := vE 3) (vs := [3]) (h := []) (f := fN) (G := fun ρ => ∃ e3 : E0, e3.free = true ∧ ρ = [.w (.d (.int n)), .w (eT es), .w (.d (.tup xs)), e3, .un, .un])
    (fun ρ ⟨e3, f3, e⟩ => by
      subst e
      show ([3].all fun v => (List.getD [E0.w (.d (.int n)), .w (eT es), .w (.d (.tup xs)), e3, .un, .un] v .un).free) = true
      simp only [List.all_cons, List.all_nil, Bool.and_true]
      exact f3) (xs.map W.d) [] [.w (.d (.int n)), .w (eT es), .w (.d (.tup xs)), .un, .un, .un] ⟨.un, rfl, rfl⟩ (fun w hw ρ ⟨e3, f3, e⟩ => by
      subst e
      obtain ⟨x, _, rfl⟩ := List.mem_map.mp hw
      refine ⟨[.w (.d (.int n)), .w (eT es), .w (.d (.tup xs)), .w (.d x), .un, .un], [.w (.d (.int n)), .w (eT es), .w (.d (.tup xs)), .w (.d x), .un, .un], rfl, ⟨_, rfl, rfl⟩, ?_⟩
      cases q : isInt x with
      | true => exact .inl ⟨by show (if isInt x then none else some x) = none; rw [q]; rfl, by rw [cn_ev, q]; rfl⟩
      | false => exact .inr ⟨x, _, by show (if isInt x then none else some x) = some x; rw [q]; rfl, by rw [cn_ev, q]; rfl, rfl⟩) (by rw [List.length_map]; show 0 + xs.length < 16777216; omega)
  rw [List.nil_append] at C
  have L : lcE (itE (vE 2)) (tgV 3) CN (vE 3) [3] ⟨[.w (.d (.int n)), .w (eT es), .w (.d (.tup xs)), .un, .un, .un], []⟩ = .ok (.new (.lst (((xs.map W.d).filterMap fN).map W.d))) ⟨[.w (.d (.int n)), .w (eT es), .w (.d (.tup xs)), .un, .un, .un], []⟩ := by
    unfold lcE
    have i0 : itE (vE 2) ⟨[.w (.d (.int n)), .w (eT es), .w (.d (.tup xs)), .un, .un, .un], []⟩ = .ok ⟨xs.map W.d, none⟩ ⟨[.w (.d (.int n)), .w (eT es), .w (.d (.tup xs)), .un, .un, .un], []⟩ := rfl
    rw [i0]
    simp only [Res.bind_ok]
    rw [C]
    rfl
  have := len_new L
  rw [List.length_map] at this
  exact this

abbrev CQ : Tm := tst (op2 ltV (op2 addV (vE 5) (op2 ixV (vE 2) (vE 3))) (op2 ixV (vE 2) (vE 4)))
theorem lenQ_ev (n : Nat) (es : List Ed) (p : List Int) (hp : p.length = n) (ok : Ok n es) (hl : es.length < LN) :
    ∃ st, op1 lenV (lcE (itE (vE 1)) (tgT [tgV 3, tgV 4, tgV 5]) CQ (kE (.int 1)) [3, 4, 5]) ⟨[.w (.d (.int n)), .w (eT es), .w (.d (.tup (p.map D.int))), .un, .un, .un], []⟩ = .ok (iR (((es.map fun e => W.d (eD e)).filterMap (fQ p)).length : Nat)) st ∧ st.h = [] := by
  obtain ⟨ρ', _, C⟩ := lc_map (t := tgT [tgV 3, tgV 4, tgV 5]) (c := CQ) (e := kE (.int 1)) (vs := [3, 4, 5]) (h := []) (f := fQ p) (G := fun ρ => ∃ a b c : E0, a.free = true ∧ b.free = true ∧ c.free = true ∧ ρ = [.w (.d (.int n)), .w (eT es), .w (.d (.tup (p.map D.int))), a, b, c])
    (fun ρ ⟨a, b, c, fa, fb, fc, e⟩ => by
      subst e
      show ([3, 4, 5].all fun v => (List.getD [E0.w (.d (.int n)), .w (eT es), .w (.d (.tup (p.map D.int))), a, b, c] v .un).free) = true
      simp only [List.all_cons, List.all_nil, Bool.and_true, Bool.and_eq_true]
      exact ⟨fa, fb, fc⟩) (es.map fun e => W.d (eD e)) [] [.w (.d (.int n)), .w (eT es), .w (.d (.tup (p.map D.int))), .un, .un, .un] ⟨.un, .un, .un, rfl, rfl, rfl, rfl⟩ (fun w hw ρ ⟨a, b, c, fa, fb, fc, e⟩ => by
      subst e
      obtain ⟨⟨u, v, x⟩, hm, rfl⟩ := List.mem_map.mp hw
      have o := ok _ hm
      have i1 := op2_ev (a := vE 2) (b := vE 3) (s := ⟨[.w (.d (.int n)), .w (eT es), .w (.d (.tup (p.map D.int))), .w (.d (.int u)), .w (.d (.int v)), .w (.d (.int x))], []⟩) rfl rfl (ix_tup (p_get (p := p) (by rw [hp]; exact o.1)))
      have i2 := op2_ev (a := vE 2) (b := vE 4) (s := ⟨[.w (.d (.int n)), .w (eT es), .w (.d (.tup (p.map D.int))), .w (.d (.int u)), .w (.d (.int v)), .w (.d (.int x))], []⟩) rfl rfl (ix_tup (p_get (p := p) (by rw [hp]; exact o.2)))
      have c0 : CQ ⟨[.w (.d (.int n)), .w (eT es), .w (.d (.tup (p.map D.int))), .w (.d (.int u)), .w (.d (.int v)), .w (.d (.int x))], []⟩ = .ok (decide (x + p.getD u 0 < p.getD v 0)) ⟨[.w (.d (.int n)), .w (eT es), .w (.d (.tup (p.map D.int))), .w (.d (.int u)), .w (.d (.int v)), .w (.d (.int x))], []⟩ := tst_b (op2_ev (op2_ev rfl i1 rfl) i2 rfl)
      have hq : fQ p (.d (eD (u, v, x))) = if x + p.getD u 0 < p.getD v 0 then some (.int 1) else none := by
        show (if x + p.getD ((u : Nat) : Int).toNat 0 < p.getD ((v : Nat) : Int).toNat 0 then some (D.int 1) else none) = _
        rw [Int.toNat_natCast, Int.toNat_natCast]
      refine ⟨[.w (.d (.int n)), .w (eT es), .w (.d (.tup (p.map D.int))), .w (.d (.int u)), .w (.d (.int v)), .w (.d (.int x))], [.w (.d (.int n)), .w (eT es), .w (.d (.tup (p.map D.int))), .w (.d (.int u)), .w (.d (.int v)), .w (.d (.int x))], rfl, ⟨_, _, _, rfl, rfl, rfl, rfl⟩, ?_⟩
      by_cases q : x + p.getD u 0 < p.getD v 0
      · rw [if_pos q] at hq
        rw [decide_eq_true q] at c0
        exact .inr ⟨.int 1, _, hq, c0, rfl⟩
      · rw [if_neg q] at hq
        rw [decide_eq_false q] at c0
        exact .inl ⟨hq, c0⟩) (by rw [List.length_map]; show 0 + es.length < LN; omega)
  rw [List.nil_append] at C
  have i0 : itE (vE 1) ⟨[.w (.d (.int n)), .w (eT es), .w (.d (.tup (p.map D.int))), .un, .un, .un], []⟩ = .ok ⟨es.map fun e => W.d (eD e), none⟩ ⟨[.w (.d (.int n)), .w (eT es), .w (.d (.tup (p.map D.int))), .un, .un, .un], []⟩ := by
    show Res.ok (⟨(es.map eD).map W.d, none⟩ : It) _ = _
    rw [List.map_map]
    rfl
  have L : lcE (itE (vE 1)) (tgT [tgV 3, tgV 4, tgV 5]) CQ (kE (.int 1)) [3, 4, 5] ⟨[.w (.d (.int n)), .w (eT es), .w (.d (.tup (p.map D.int))), .un, .un, .un], []⟩ = .ok (.new (.lst (((es.map fun e => W.d (eD e)).filterMap (fQ p)).map W.d))) ⟨restore [3, 4, 5] [.w (.d (.int n)), .w (eT es), .w (.d (.tup (p.map D.int))), .un, .un, .un] ρ', []⟩ := by
    unfold lcE
    rw [i0]
    simp only [Res.bind_ok]
    rw [C]
  have := len_new L
  rw [List.length_map] at this
  exact ⟨_, this, rfl⟩
theorem len0 {α : Type} (l : List α) : decide ((0 : Int) < (l.length : Nat)) = !l.isEmpty ∧ (((l.length : Nat) : Int) == 0) = l.isEmpty := by
  cases l with
  | nil => exact ⟨rfl, rfl⟩
  | cons a l =>
    refine ⟨decide_eq_true (by simp only [List.length_cons]; omega), beq_eq_false_iff_ne.mpr (by simp only [List.length_cons]; omega)⟩
/-- _law_are_potentials of data -/
theorem arepot_sp (k n : Nat) (es : List Ed) (x : D) (ok : Ok n es) (hl : es.length < LN) (hn : n < 1000) :
    ∃ h, callF fns (k + 1) 14 [.d (.int n), eT es, .d x] [] = .ok (bR (isPotB n es x)) h := by
  have c0 := call_t k 14 3 6 B14 [W.d (.int n), eT es, .d x] [] rfl rfl
  have e : [W.d (.int n), eT es, .d x].map E0.w ++ List.replicate (6 - 3) E0.un = [.w (.d (.int n)), .w (eT es), .w (.d x), .un, .un, .un] := rfl
  rw [e] at c0
  rw [c0]
  cases x with
  | non => exact ⟨_, rfl⟩
  | bl _ => exact ⟨_, rfl⟩
  | int _ => exact ⟨_, rfl⟩
  | str _ => exact ⟨_, rfl⟩
  | tup xs =>
    have t1 : tst (op2 neV (op1 lenV (vE 2)) (vE 0)) ⟨[.w (.d (.int n)), .w (eT es), .w (.d (.tup xs)), .un, .un, .un], []⟩ = .ok (!decide (xs.length = n)) ⟨[.w (.d (.int n)), .w (eT es), .w (.d (.tup xs)), .un, .un, .un], []⟩ := by
      refine tst_b (op2_ev (x := iR (xs.length : Nat)) (op1_ev rfl ?_) rfl ?_)
      · show some (iR ((xs.map W.d).length : Nat)) = _
        rw [List.length_map]
      · show some (bR (!(((xs.length : Nat) : Int) == ((n : Nat) : Int)))) = _
        by_cases q : xs.length = n
        · subst q; simp
        · have h1 : (((xs.length : Nat) : Int) == ((n : Nat) : Int)) = false := beq_eq_false_iff_ne.mpr fun z => q (Int.ofNat.inj z)
          rw [h1, decide_eq_false q]
    by_cases hx : xs.length = n
    · rw [decide_eq_true hx] at t1
      have ip : isPotB n es (.tup xs) = (match intsD xs with
        | some p => es.all (potB p)
        | none => false) := by
        show (decide (xs.length = n) && _) = _
        rw [decide_eq_true hx]
        rfl
      rw [ip]
      have t2 := lenN_ev n es xs (by omega)
      have t3 : tst (op2 gtV (op1 lenV (lcE (itE (vE 2)) (tgV 3) CN (vE 3) [3])) (kE (.int 0))) ⟨[.w (.d (.int n)), .w (eT es), .w (.d (.tup xs)), .un, .un, .un], []⟩ = .ok (!xs.all isInt) ⟨[.w (.d (.int n)), .w (eT es), .w (.d (.tup xs)), .un, .un, .un], []⟩ := by
        refine tst_b (op2_ev t2 rfl ?_)
        rw [← fN_nil, ← (len0 ((xs.map W.d).filterMap fN)).1]
        rfl
      cases ha : xs.all isInt with
      | true =>
        obtain ⟨p, e1, e2⟩ := ints_of.1 ha
        subst e2
        rw [ha] at t3
        rw [e1]
        obtain ⟨st, A, hst⟩ := lenQ_ev n es p (by rw [← hx, List.length_map]) ok hl
        have B : B14 (callF fns k) ⟨[.w (.d (.int n)), .w (eT es), .w (.d (.tup (p.map D.int))), .un, .un, .un], []⟩ = .rt (bR (es.all (potB p))) st := by
          refine seq_nx (if_f (orT_f rfl t1) rfl) (seq_nx (if_f t3 rfl) (ret_ev (op2_ev A rfl ?_)))
          show some (bR ((((((es.map fun e => W.d (eD e)).filterMap (fQ p)).length : Nat) : Int)) == 0)) = _
          rw [(len0 ((es.map fun e => W.d (eD e)).filterMap (fQ p))).2, fQ_nil]
        rw [B]
        exact ⟨st.h, rfl⟩
      | false =>
        rw [ha] at t3
        rw [ints_of.2 ha]
        have B : B14 (callF fns k) ⟨[.w (.d (.int n)), .w (eT es), .w (.d (.tup xs)), .un, .un, .un], []⟩ = .rt (bR false) ⟨[.w (.d (.int n)), .w (eT es), .w (.d (.tup xs)), .un, .un, .un], []⟩ :=
          seq_nx (if_f (orT_f rfl t1) rfl) (seq_rt (if_t t3 rfl))
        rw [B]
        exact ⟨[], rfl⟩
    · rw [decide_eq_false hx] at t1
      have ip : isPotB n es (.tup xs) = false := by
        show (decide (xs.length = n) && _) = false
        rw [decide_eq_false hx]
        rfl
      rw [ip]
      have B : B14 (callF fns k) ⟨[.w (.d (.int n)), .w (eT es), .w (.d (.tup xs)), .un, .un, .un], []⟩ = .rt (bR false) ⟨[.w (.d (.int n)), .w (eT es), .w (.d (.tup xs)), .un, .un, .un], []⟩ :=
        seq_rt (if_t (orT_f rfl t1) rfl)
      rw [B]
      exact ⟨[], rfl⟩
end HeadT

set_option linter.all false
set_option maxRecDepth 100000
set_option maxHeartbeats 1000000
namespace HeadT
open Mn BF
abbrev SM : Mn.St := (ifS (tst (op2 isV (op2 ixV (vE 1) (vE 2)) (kE .non))) (ifS (tst (op2 isntV (op2 ixV (vE 0) (vE 2)) (kE .non))) (retS (kE (.bl false))) (nxS)) (ifS (orT (notT (tst (op1 (isiV .int) (op2 ixV (vE 0) (vE 2))))) (orT (tst (op1 (isiV .bool) (op2 ixV (vE 0) (vE 2)))) (tst (op2 neV (op2 ixV (vE 0) (vE 2)) (op2 ixV (vE 1) (vE 2)))))) (retS (kE (.bl false))) (nxS)))
theorem sm_turn {t : Ss} {u : Nat} (hu : u < t.length) {h : List O} : SM ⟨[.w (tW (some t)), .w (tW (some t)), .w (.d (.int (u : Nat)))], h⟩ = .nx ⟨[.w (tW (some t)), .w (tW (some t)), .w (.d (.int (u : Nat)))], h⟩ := by
  have g : (t.map oDd)[u]? = some (oDd (t[u])) := by rw [List.getElem?_map, List.getElem?_eq_getElem hu]; rfl
  have a := op2_ev (a := vE 0) (b := vE 2) (s := ⟨[.w (tW (some t)), .w (tW (some t)), .w (.d (.int (u : Nat)))], h⟩) rfl rfl (ix_tup g)
  have b := op2_ev (a := vE 1) (b := vE 2) (s := ⟨[.w (tW (some t)), .w (tW (some t)), .w (.d (.int (u : Nat)))], h⟩) rfl rfl (ix_tup g)
  cases q : t[u] with
  | none =>
    rw [q] at a b
    exact if_t (tst_b (op2_ev b rfl rfl)) (if_f (tst_b (op2_ev a rfl rfl)) rfl)
  | some x =>
    rw [q] at a b
    refine if_f (tst_b (op2_ev b rfl rfl)) (if_f (orT_f (notT_ev (k := true) (tst_b (op1_ev a rfl))) (orT_f (tst_b (op1_ev a rfl)) (tst_b (op2_ev a b ?_)))) rfl)
    show some (bR (!(x == x))) = _
    rw [beq_self_eq_true]
    rfl
theorem sm_loop {t : Ss} {h : List O} : ∀ (l : List Nat) (e2 : E0), (∀ u ∈ l, u < t.length) → ∃ e2', forL none (tgV 2) SM (l.map iW) ⟨[.w (tW (some t)), .w (tW (some t)), e2], h⟩ = .nx ⟨[.w (tW (some t)), .w (tW (some t)), e2'], h⟩
  | [], e2, _ => ⟨e2, forL_nil rfl⟩
  | u :: l, e2, hl => by
    obtain ⟨e2', I⟩ := sm_loop (h := h) l (.w (iW u)) fun v hv => hl v (List.mem_cons_of_mem _ hv)
    exact ⟨e2', forL_cons rfl rfl (sm_turn (hl u List.mem_cons_self)) I⟩
/-- _law_same of the same -/
theorem same_sp (k : Nat) (t : Ss) (ht : t.length < 1000) (h : List O) : callF fns (k + 1) 15 [tW (some t), tW (some t)] h = .ok (bR true) h := by
  have c0 := call_t k 15 2 3 B15 [tW (some t), tW (some t)] h rfl rfl
  have e : [tW (some t), tW (some t)].map E0.w ++ List.replicate (3 - 2) E0.un = [.w (tW (some t)), .w (tW (some t)), .un] := rfl
  rw [e] at c0
  rw [c0]
  obtain ⟨e2', I⟩ := sm_loop (t := t) (h := h) (List.range t.length) .un fun u hu => List.mem_range.mp hu
  have ln : ∀ i : Nat, i < 2 → op1 lenV (vE i) ⟨[.w (tW (some t)), .w (tW (some t)), .un], h⟩ = .ok (iR (t.length : Nat)) ⟨[.w (tW (some t)), .w (tW (some t)), .un], h⟩ := fun i hi => by
    have e : lenV ⟨[.w (tW (some t)), .w (tW (some t)), .un], h⟩ (.w (tW (some t))) = some (iR (t.length : Nat)) := by
      show some (iR (((t.map oDd).map W.d).length : Nat)) = _
      rw [List.length_map, List.length_map]
    cases i with
    | zero => exact op1_ev rfl e
    | succ i =>
      have : i = 0 := by omega
      subst this
      exact op1_ev rfl e
  have r0 : itR1 (op1 lenV (vE 1)) ⟨[.w (tW (some t)), .w (tW (some t)), .un], h⟩ = .ok ⟨(List.range t.length).map iW, none⟩ ⟨[.w (tW (some t)), .w (tW (some t)), .un], h⟩ := by
    have := itR1_ev (ln 1 (by omega)) (small_ok (by omega) (by omega))
    rw [Int.toNat_natCast] at this
    rw [this]
    unfold uptoN
    simp only [Int.zero_add]
  have B : B15 (callF fns k) ⟨[.w (tW (some t)), .w (tW (some t)), .un], h⟩ = .rt (bR true) ⟨[.w (tW (some t)), .w (tW (some t)), e2'], h⟩ := by
    refine seq_nx (if_f (orT_f rfl (tst_b (op2_ev (ln 0 (by omega)) (ln 1 (by omega)) ?_))) rfl) (seq_nx (for_ev r0 I) rfl)
    show some (bR (!(((t.length : Nat) : Int) == ((t.length : Nat) : Int)))) = _
    rw [beq_self_eq_true]
    rfl
  rw [B]
  rfl
end HeadT

set_option linter.all false
set_option maxRecDepth 100000
set_option maxHeartbeats 1000000
namespace HeadT
open Mn BF
variable {n L c : Nat} {es : List Ed} {tl : List Nat} {x : X}
theorem Ring.ed (R : Ring n es tl x L c) (m : Nat) : es[pj x (it (pr es x) m c)]? = some (it (pr es x) (m + 1) c, it (pr es x) m c, wt es x (it (pr es x) m c)) := by
  rw [it_succ]
  generalize hv : it (pr es x) m c = v
  have hp := R.par m
  rw [hv] at hp
  cases q : x.par v with
  | none => exact absurd q hp
  | some j =>
    obtain ⟨u, w, a, b, e1, _⟩ := R.inv.ok v j q
    have ep : pr es x v = u := by unfold pr; rw [q]; simp only; rw [List.getD_eq_getElem?_getD, e1]; rfl
    have ew : wt es x v = w := by unfold wt; rw [q]; simp only; rw [List.getD_eq_getElem?_getD, e1]; rfl
    have ej : pj x v = j := by unfold pj; rw [q]; rfl
    rw [ep, ew, ej]
    exact e1
theorem Ring.len (R : Ring n es tl x L c) : tl.length = L := by rw [R.eq]; unfold told; simp
theorem Ring.inj (R : Ring n es tl x L c) {i j : Nat} (h1 : i < j) (h2 : j < L) : it (pr es x) i c ≠ it (pr es x) j c := fun e => by
  have k1 : it (pr es x) (L - j) (it (pr es x) j c) = c := by rw [← it_add, show j + (L - j) = L by omega]; exact R.cyc
  rw [← e, ← it_add] at k1
  exact R.min (i + (L - j)) (by omega) (by omega) k1
theorem List.nodup_reverse' {α : Type} {l : List α} (h : l.Nodup) : l.reverse.Nodup := by
  unfold List.Nodup at h ⊢
  rw [List.pairwise_reverse]
  exact h.imp fun h e => h e.symm
theorem Ring.nodup (R : Ring n es tl x L c) : tl.Nodup := by
  rw [R.eq]
  unfold told
  refine List.nodup_reverse' ?_
  refine nodup_map L fun i j h1 h2 h3 => ?_
  have a := R.ed i
  have b := R.ed j
  rw [h3] at a
  have e := Option.some.inj (a.symm.trans b)
  injection e with _ e
  injection e with e _
  exact R.inj h1 h2 e
theorem Ring.lt (R : Ring n es tl x L c) : ∀ p ∈ tl, p < es.length := fun p hp => by
  rw [R.eq] at hp
  unfold told at hp
  rw [List.mem_reverse] at hp
  obtain ⟨i, _, rfl⟩ := List.mem_map.mp hp
  exact (List.getElem?_eq_some_iff.mp (R.ed i)).1
theorem tot_sum (f : Nat → Nat) (w : Nat → Int) : ∀ L c, tot f w L c = ((List.range L).map fun i => w (it f i c)).sum
  | 0, c => rfl
  | L + 1, c => by
    rw [tot_add f w L 1 c, tot_sum f w L c, List.range_succ, List.map_append, List.sum_append]
    simp [tot]
theorem Ring.neg (R : Ring n es tl x L c) : (tl.map fun p => (es.getD p (0, 0, 0)).2.2).sum < 0 := by
  have t := R.inv.cyc c L R.pos (fun i _ => R.par i) R.cyc
  rw [tot_sum] at t
  rw [R.eq]
  unfold told
  rw [List.map_reverse, List.sum_reverse, List.map_map]
  have e : (List.range L).map ((fun p => (es.getD p (0, 0, 0)).2.2) ∘ fun i => pj x (it (pr es x) i c)) = (List.range L).map fun i => wt es x (it (pr es x) i c) := List.map_congr_left fun i _ => by
    show (es.getD (pj x (it (pr es x) i c)) (0, 0, 0)).2.2 = _
    rw [List.getD_eq_getElem?_getD, R.ed i]
    rfl
  rw [e]
  exact t
/-- the k-th of it -/
theorem Ring.at (R : Ring n es tl x L c) {k : Nat} (hk : k < L) : tl[k]? = some (pj x (it (pr es x) (L - 1 - k) c)) := by
  rw [R.eq]
  unfold told
  rw [List.getElem?_reverse (by simp; exact hk)]
  simp only [List.length_map, List.length_range]
  rw [List.getElem?_map, List.getElem?_range (by omega)]
  rfl

/-- the edge of the k-th, its beginning and its end -/
theorem Ring.link (R : Ring n es tl x L c) {k : Nat} (hk : k < L) : ∃ p q e f, tl[k]? = some q ∧ tl[(k + L - 1) % L]? = some p ∧ es[p]? = some e ∧ es[q]? = some f ∧ e.2.1 = f.1 := by
  have hL := R.pos
  refine ⟨_, _, _, _, R.at hk, R.at (Nat.mod_lt _ hL), R.ed _, R.ed _, ?_⟩
  show it (pr es x) (L - 1 - (k + L - 1) % L) c = it (pr es x) (L - 1 - k + 1) c
  cases k with
  | zero =>
    have e1 : (0 + L - 1) % L = L - 1 := by rw [Nat.zero_add]; exact Nat.mod_eq_of_lt (by omega)
    rw [e1, show L - 1 - (L - 1) = 0 by omega, show L - 1 - 0 + 1 = L by omega, R.cyc]
    rfl
  | succ k =>
    have e1 : (k + 1 + L - 1) % L = k := by
      rw [show k + 1 + L - 1 = k + L by omega, Nat.add_mod_right]
      exact Nat.mod_eq_of_lt (by omega)
    rw [e1]
    congr 1
    omega
theorem Ring.many (R : Ring n es tl x L c) : L ≤ es.length := by
  have := nodup_le es.length tl R.nodup R.lt
  rw [R.len] at this
  exact this
end HeadT

set_option linter.all false
set_option maxRecDepth 100000
set_option maxHeartbeats 1000000
namespace HeadT
open Mn BF
theorem chE_ev {f g : S → R → R → Option R} {a b c : Ex} {x y z r : R} {s s1 s2 s3 : S} (h1 : a s = .ok x s1) (h2 : b s1 = .ok y s2) (h3 : f s2 x y = some (bR true)) (h4 : c s2 = .ok z s3) (h5 : g s3 y z = some r) : chE f g a b c s = .ok r s3 := by
  unfold chE
  rw [h1]; simp only [Res.bind_ok]
  rw [h2]; simp only [Res.bind_ok]
  rw [h3]; simp only
  rw [h4]; simp only [Res.bind_ok]
  rw [h5]
theorem dist_nodup : ∀ {l : List Nat}, l.Nodup → dist (l.map fun p : Nat => (p : Int)) = l.length
  | [], _ => rfl
  | p :: l, h => by
    rw [List.nodup_cons] at h
    have hm : ((p : Nat) : Int) ∉ l.map fun p : Nat => (p : Int) := fun z => by
      obtain ⟨q, h1, h2⟩ := List.mem_map.mp z
      exact h.1 (Int.ofNat.inj h2 ▸ h1)
    show (if ((p : Nat) : Int) ∈ l.map (fun p : Nat => (p : Int)) then dist (l.map fun p : Nat => (p : Int)) else dist (l.map fun p : Nat => (p : Int)) + 1) = _
    rw [if_neg hm, dist_nodup h.2]
    rfl
/-- the tuple that falling_round tells -/
def tT' (tl : List Nat) : D := .tup (tl.map fun p : Nat => D.int (p : Nat))
theorem lenT_ev {tl : List Nat} {s : S} {i : Nat} (h : s.ρ[i]? = some (.w (.d (tT' tl)))) : op1 lenV (vE i) s = .ok (iR (tl.length : Nat)) s := by
  have v : vE i s = .ok (.w (.d (tT' tl))) s := by unfold vE; rw [h]
  refine op1_ev v ?_
  show some (iR (((tl.map fun p : Nat => D.int (p : Nat)).map W.d).length : Nat)) = _
  rw [List.length_map, List.length_map]
theorem lenE_ev {es : List Ed} {s : S} {i : Nat} (h : s.ρ[i]? = some (.w (eT es))) : op1 lenV (vE i) s = .ok (iR (es.length : Nat)) s := by
  have v : vE i s = .ok (.w (eT es)) s := by unfold vE; rw [h]
  refine op1_ev v ?_
  show some (iR (((es.map eD).map W.d).length : Nat)) = _
  rw [List.length_map, List.length_map]
abbrev CF : Tm := (orT (notT (tst (op1 (isiV .int) (vE 3)))) (orT (tst (op1 (isiV .bool) (vE 3))) (notT (tst (chE leV ltV (kE (.int 0)) (vE 3) (op1 lenV (vE 0)))))))
theorem cf_ev {es : List Ed} {a1 : W} {e2 : E0} {p : Nat} (hp : p < es.length) {h : List O} : CF ⟨[.w (eT es), .w a1, e2, .w (iW p)], h⟩ = .ok false ⟨[.w (eT es), .w a1, e2, .w (iW p)], h⟩ := by
  refine orT_f rfl (orT_f rfl (notT_ev (k := true) (tst_b (chE_ev rfl rfl ?_ (lenE_ev rfl) ?_))))
  · show some (bR (decide ((0 : Int) ≤ ((p : Nat) : Int)))) = _
    rw [decide_eq_true (by omega)]
  · show some (bR (decide (((p : Nat) : Int) < ((es.length : Nat) : Int)))) = _
    rw [decide_eq_true (by omega)]

/-- none is out of place -/
theorem lenF_ev {es : List Ed} {tl : List Nat} (hlt : ∀ p ∈ tl, p < es.length) (hn : tl.length < LN) : op1 lenV (lcE (itE (vE 1)) (tgV 3) CF (vE 3) [3]) ⟨[.w (eT es), .w (.d (tT' tl)), .un, .un], []⟩ = .ok (iR (0 : Nat)) ⟨[.w (eT es), .w (.d (tT' tl)), .un, .un], []⟩ := by
  obtain ⟨ρ', ⟨e3, f3, rfl⟩, C⟩ := lc_map (t := tgV 3) (c := CF) (e := vE 3) (vs := [3]) (h := []) (f := fun _ => none) (G := fun ρ => ∃ e3 : E0, e3.free = true ∧ ρ = [.w (eT es), .w (.d (tT' tl)), .un, e3])
    (fun ρ ⟨e3, f3, e⟩ => by
      subst e
      show ([3].all fun v => (List.getD [E0.w (eT es), .w (.d (tT' tl)), .un, e3] v .un).free) = true
      simp only [List.all_cons, List.all_nil, Bool.and_true]
      exact f3) (tl.map iW) [] [.w (eT es), .w (.d (tT' tl)), .un, .un] ⟨.un, rfl, rfl⟩ (fun w hw ρ ⟨e3, f3, e⟩ => by
      subst e
      obtain ⟨p, hp, rfl⟩ := List.mem_map.mp hw
      exact ⟨[.w (eT es), .w (.d (tT' tl)), .un, .w (iW p)], [.w (eT es), .w (.d (tT' tl)), .un, .w (iW p)], rfl, ⟨_, rfl, rfl⟩, .inl ⟨rfl, cf_ev (hlt p hp)⟩⟩) (by rw [List.length_map]; show 0 + tl.length < LN; omega)
  have i0 : itE (vE 1) ⟨[.w (eT es), .w (.d (tT' tl)), .un, .un], []⟩ = .ok ⟨tl.map iW, none⟩ ⟨[.w (eT es), .w (.d (tT' tl)), .un, .un], []⟩ := by
    show Res.ok (⟨(tl.map fun p : Nat => D.int (p : Nat)).map W.d, none⟩ : It) _ = _
    rw [List.map_map]
    rfl
  have L : lcE (itE (vE 1)) (tgV 3) CF (vE 3) [3] ⟨[.w (eT es), .w (.d (tT' tl)), .un, .un], []⟩ = .ok (.new (.lst [])) ⟨[.w (eT es), .w (.d (tT' tl)), .un, .un], []⟩ := by
    unfold lcE
    rw [i0]
    simp only [Res.bind_ok]
    rw [C]
    simp
    rfl
  exact len_new L
theorem ix_last {s : S} {xs : List D} {x : D} (h : xs[xs.length - 1]? = some x) : ixV s (.w (.d (.tup xs))) (iR (-1)) = some (.w (.d x)) := by
  have hu := (List.getElem?_eq_some_iff.mp h).1
  show (atI xs (-1)).map (fun x => R.w (.d x)) = _
  have e : Mn.ixN xs.length (-1) = some (xs.length - 1) := by
    unfold Mn.ixN
    rw [if_neg (by omega), if_pos (by omega)]
    congr 1
    omega
  unfold Mn.atI
  rw [e]
  simp only [h]
  rfl

abbrev KB : Mn.St := (ifS (tst (op2 neV (op2 ixV (op2 ixV (vE 0) (op2 ixV (vE 1) (op2 subV (vE 2) (kE (.int 1))))) (kE (.int 1))) (op2 ixV (op2 ixV (vE 0) (op2 ixV (vE 1) (vE 2))) (kE (.int 0))))) (retS (kE (.bl false))) (nxS))
theorem kb_turn {n L c k : Nat} {es : List Ed} {tl : List Nat} {x : X} (R : Ring n es tl x L c) (hk : k < L) {e3 : E0} {h : List O} : KB ⟨[.w (eT es), .w (.d (tT' tl)), .w (iW k), e3], h⟩ = .nx ⟨[.w (eT es), .w (.d (tT' tl)), .w (iW k), e3], h⟩ := by
  obtain ⟨p, q, e, f, h1, h2, h3, h4, h5⟩ := R.link hk
  have gq : (tl.map fun p : Nat => D.int (p : Nat))[k]? = some (.int (q : Nat)) := by rw [List.getElem?_map, h1]; rfl
  have ge : (es.map eD)[p]? = some (eD e) := by rw [List.getElem?_map, h3]; rfl
  have gf : (es.map eD)[q]? = some (eD f) := by rw [List.getElem?_map, h4]; rfl
  have b2 : op2 ixV (vE 1) (vE 2) ⟨[.w (eT es), .w (.d (tT' tl)), .w (iW k), e3], h⟩ = .ok (iR (q : Nat)) ⟨[.w (eT es), .w (.d (tT' tl)), .w (iW k), e3], h⟩ := op2_ev rfl rfl (ix_tup gq)
  have b1 : op2 ixV (vE 1) (op2 subV (vE 2) (kE (.int 1))) ⟨[.w (eT es), .w (.d (tT' tl)), .w (iW k), e3], h⟩ = .ok (iR (p : Nat)) ⟨[.w (eT es), .w (.d (tT' tl)), .w (iW k), e3], h⟩ := by
    refine op2_ev rfl (op2_ev (r := iR ((k : Int) - 1)) rfl rfl rfl) ?_
    have hl := R.len
    cases k with
    | zero =>
      have e1 : (0 + L - 1) % L = L - 1 := by rw [Nat.zero_add]; exact Nat.mod_eq_of_lt (by omega)
      rw [e1] at h2
      refine ix_last (xs := tl.map fun p : Nat => D.int (p : Nat)) ?_
      rw [List.length_map, hl, List.getElem?_map, h2]
      rfl
    | succ k =>
      have e1 : (k + 1 + L - 1) % L = k := by
        rw [show k + 1 + L - 1 = k + L by omega, Nat.add_mod_right]
        exact Nat.mod_eq_of_lt (by omega)
      rw [e1] at h2
      have e2 : (((k + 1 : Nat) : Int) - 1) = (k : Nat) := by omega
      rw [e2]
      exact ix_tup (by rw [List.getElem?_map, h2]; rfl)
  have v0 : vE 0 ⟨[.w (eT es), .w (.d (tT' tl)), .w (iW k), e3], h⟩ = .ok (.w (eT es)) ⟨[.w (eT es), .w (.d (tT' tl)), .w (iW k), e3], h⟩ := rfl
  have c1 := op2_ev (f := ixV) (a := op2 ixV (vE 0) (op2 ixV (vE 1) (op2 subV (vE 2) (kE (.int 1))))) (b := kE (.int 1)) (r := iR (e.2.1 : Nat)) (op2_ev v0 b1 (ix_tup ge)) rfl rfl
  have c2 := op2_ev (f := ixV) (a := op2 ixV (vE 0) (op2 ixV (vE 1) (vE 2))) (b := kE (.int 0)) (r := iR (f.1 : Nat)) (op2_ev v0 b2 (ix_tup gf)) rfl rfl
  refine if_f (tst_b (op2_ev c1 c2 ?_)) rfl
  show some (bR (!(((e.2.1 : Nat) : Int) == ((f.1 : Nat) : Int)))) = _
  rw [h5, beq_self_eq_true]
  rfl
theorem kb_loop {n L c : Nat} {es : List Ed} {tl : List Nat} {x : X} (R : Ring n es tl x L c) {e3 : E0} {h : List O} : ∀ (l : List Nat) (e2 : E0), (∀ u ∈ l, u < L) → ∃ e2', forL none (tgV 2) KB (l.map iW) ⟨[.w (eT es), .w (.d (tT' tl)), e2, e3], h⟩ = .nx ⟨[.w (eT es), .w (.d (tT' tl)), e2', e3], h⟩
  | [], e2, _ => ⟨e2, forL_nil rfl⟩
  | u :: l, e2, hl => by
    obtain ⟨e2', I⟩ := kb_loop R (e3 := e3) (h := h) l (.w (iW u)) fun v hv => hl v (List.mem_cons_of_mem _ hv)
    exact ⟨e2', forL_cons rfl rfl (kb_turn R (hl u List.mem_cons_self)) I⟩

def fW (es : List Ed) : W → Option D
  | .d (.int p) => some (.int (es.getD p.toNat (0, 0, 0)).2.2)
  | _ => none
theorem fW_map (es : List Ed) (tl : List Nat) : (tl.map iW).filterMap (fW es) = (tl.map fun p => (es.getD p (0, 0, 0)).2.2).map D.int := by
  induction tl with
  | nil => rfl
  | cons p tl ih =>
    rw [List.map_cons, List.filterMap_cons_some (f := fW es) (b := .int (es.getD p (0, 0, 0)).2.2) (by
      show some (D.int (es.getD ((p : Nat) : Int).toNat (0, 0, 0)).2.2) = _
      rw [Int.toNat_natCast]), ih]
    rfl
theorem sum_new {s : S} {bs : List Int} {a : Ex} {s1 : S} (h : a s = .ok (.new (.lst ((bs.map D.int).map W.d))) s1) : op1 sumV a s = .ok (iR bs.sum) s1 := by
  refine op1_ev h ?_
  show ((alld ((bs.map D.int).map W.d)).bind intsD).map (fun bs : List Int => iR bs.sum) = _
  rw [alld_map]
  show ((intsD (bs.map D.int))).map (fun bs : List Int => iR bs.sum) = _
  rw [intsD_map]
  rfl
theorem sumF_ev {es : List Ed} {tl : List Nat} (hlt : ∀ p ∈ tl, p < es.length) (hn : tl.length < LN) {e2 : E0} : op1 sumV (lcE (itE (vE 1)) (tgV 3) yesT (op2 ixV (op2 ixV (vE 0) (vE 3)) (kE (.int 2))) [3]) ⟨[.w (eT es), .w (.d (tT' tl)), e2, .un], []⟩ = .ok (iR (tl.map fun p => (es.getD p (0, 0, 0)).2.2).sum) ⟨[.w (eT es), .w (.d (tT' tl)), e2, .un], []⟩ := by
  obtain ⟨ρ', ⟨e3, f3, rfl⟩, C⟩ := lc_map (t := tgV 3) (c := yesT) (e := op2 ixV (op2 ixV (vE 0) (vE 3)) (kE (.int 2))) (vs := [3]) (h := []) (f := fW es) (G := fun ρ => ∃ e3 : E0, e3.free = true ∧ ρ = [.w (eT es), .w (.d (tT' tl)), e2, e3])
    (fun ρ ⟨e3, f3, e⟩ => by
      subst e
      show ([3].all fun v => (List.getD [E0.w (eT es), .w (.d (tT' tl)), e2, e3] v .un).free) = true
      simp only [List.all_cons, List.all_nil, Bool.and_true]
      exact f3) (tl.map iW) [] [.w (eT es), .w (.d (tT' tl)), e2, .un] ⟨.un, rfl, rfl⟩ (fun w hw ρ ⟨e3, f3, e⟩ => by
      subst e
      obtain ⟨p, hp, rfl⟩ := List.mem_map.mp hw
      have hl := hlt p hp
      have gp : (es.map eD)[p]? = some (eD es[p]) := by rw [List.getElem?_map, List.getElem?_eq_getElem hl]; rfl
      have gd : es.getD p (0, 0, 0) = es[p] := by rw [List.getD_eq_getElem?_getD, List.getElem?_eq_getElem hl]; rfl
      have v0 : vE 0 ⟨[.w (eT es), .w (.d (tT' tl)), e2, .w (iW p)], []⟩ = .ok (.w (eT es)) ⟨[.w (eT es), .w (.d (tT' tl)), e2, .w (iW p)], []⟩ := rfl
      refine ⟨[.w (eT es), .w (.d (tT' tl)), e2, .w (iW p)], [.w (eT es), .w (.d (tT' tl)), e2, .w (iW p)], rfl, ⟨_, rfl, rfl⟩, .inr ⟨.int (es.getD p (0, 0, 0)).2.2, _, ?_, rfl, ?_⟩⟩
      · show some (D.int (es.getD ((p : Nat) : Int).toNat (0, 0, 0)).2.2) = _
        rw [Int.toNat_natCast]
      · rw [gd]
        exact op2_ev (op2_ev v0 rfl (ix_tup gp)) rfl rfl) (by rw [List.length_map]; show 0 + tl.length < LN; omega)
  have i0 : itE (vE 1) ⟨[.w (eT es), .w (.d (tT' tl)), e2, .un], []⟩ = .ok ⟨tl.map iW, none⟩ ⟨[.w (eT es), .w (.d (tT' tl)), e2, .un], []⟩ := by
    show Res.ok (⟨(tl.map fun p : Nat => D.int (p : Nat)).map W.d, none⟩ : It) _ = _
    rw [List.map_map]
    rfl
  rw [List.nil_append, fW_map] at C
  have L : lcE (itE (vE 1)) (tgV 3) yesT (op2 ixV (op2 ixV (vE 0) (vE 3)) (kE (.int 2))) [3] ⟨[.w (eT es), .w (.d (tT' tl)), e2, .un], []⟩ = .ok (.new (.lst (((tl.map fun p => (es.getD p (0, 0, 0)).2.2).map D.int).map W.d))) ⟨[.w (eT es), .w (.d (tT' tl)), e2, .un], []⟩ := by
    unfold lcE
    rw [i0]
    simp only [Res.bind_ok]
    rw [C]
    rfl
  exact sum_new L

/-- _law_is_falling of what falling_round tells -/
theorem isfall_sp (k : Nat) {n L c : Nat} {es : List Ed} {tl : List Nat} {x : X} (R : Ring n es tl x L c) (hn : es.length < 4000) : ∃ h, callF fns (k + 1) 13 [eT es, .d (tT' tl)] [] = .ok (bR true) h := by
  have c0 := call_t k 13 2 4 B13 [eT es, .d (tT' tl)] [] rfl rfl
  have e : [eT es, .d (tT' tl)].map E0.w ++ List.replicate (4 - 2) E0.un = [.w (eT es), .w (.d (tT' tl)), .un, .un] := rfl
  rw [e] at c0
  rw [c0]
  have hL := R.len
  have hm := R.many
  have hp := R.pos
  obtain ⟨e2', I⟩ := kb_loop R (e3 := .un) (h := []) (List.range L) .un fun u hu => List.mem_range.mp hu
  have l1 := lenT_ev (tl := tl) (s := ⟨[.w (eT es), .w (.d (tT' tl)), .un, .un], []⟩) (i := 1) rfl
  have l0 := lenE_ev (es := es) (s := ⟨[.w (eT es), .w (.d (tT' tl)), .un, .un], []⟩) (i := 0) rfl
  have r0 : itR1 (op1 lenV (vE 1)) ⟨[.w (eT es), .w (.d (tT' tl)), .un, .un], []⟩ = .ok ⟨(List.range L).map iW, none⟩ ⟨[.w (eT es), .w (.d (tT' tl)), .un, .un], []⟩ := by
    have := itR1_ev l1 (small_ok (by omega) (by omega))
    rw [Int.toNat_natCast, hL] at this
    rw [this]
    unfold uptoN
    simp only [Int.zero_add]
  have st : op1 lsetV (vE 1) ⟨[.w (eT es), .w (.d (tT' tl)), .un, .un], []⟩ = .ok (iR (L : Nat)) ⟨[.w (eT es), .w (.d (tT' tl)), .un, .un], []⟩ := by
    refine op1_ev rfl ?_
    have ei : intsD (tl.map fun p : Nat => D.int (p : Nat)) = some (tl.map fun p : Nat => (p : Int)) := by
      have := intsD_map (tl.map fun p : Nat => (p : Int))
      rw [List.map_map] at this
      exact this
    show (match intsD (tl.map fun p : Nat => D.int (p : Nat)) with
      | some ns => if ns.length + 1 < 4096 then some (iR (dist ns : Nat)) else none
      | none => none) = _
    rw [ei]
    simp only
    rw [if_pos (by rw [List.length_map]; omega), dist_nodup R.nodup, hL]
  have B : B13 (callF fns k) ⟨[.w (eT es), .w (.d (tT' tl)), .un, .un], []⟩ = .rt (bR true) ⟨[.w (eT es), .w (.d (tT' tl)), e2', .un], []⟩ := by
    refine seq_nx (if_f (orT_f rfl (orT_f (tst_b (op2_ev l1 rfl ?_)) (tst_b (op2_ev l1 l0 ?_)))) rfl) (seq_nx (if_f (tst_b (op2_ev (lenF_ev R.lt (by show tl.length < 16777216; omega)) rfl rfl)) rfl) (seq_nx (if_f (tst_b (op2_ev st l1 ?_)) rfl) (seq_nx (for_ev r0 I) (ret_ev (op2_ev (sumF_ev R.lt (by show tl.length < 16777216; omega)) rfl ?_)))))
    · show some (bR ((((tl.length : Nat) : Int)) == 0)) = _
      rw [beq_eq_false_iff_ne.mpr (by omega)]
    · show some (bR (decide (((es.length : Nat) : Int) < ((tl.length : Nat) : Int)))) = _
      rw [decide_eq_false (by omega)]
    · show some (bR (decide (((L : Nat) : Int) < ((tl.length : Nat) : Int)))) = _
      rw [decide_eq_false (by omega)]
    · show some (bR (decide ((tl.map fun p => (es.getD p (0, 0, 0)).2.2).sum < 0))) = _
      rw [decide_eq_true R.neg]
  rw [B]
  exact ⟨[], rfl⟩
end HeadT

set_option linter.all false
set_option maxRecDepth 100000
set_option maxHeartbeats 1000000
namespace HeadT
open Mn BF
abbrev zW (v : Int) : W := .d (.int v)
/-- the law's scale: great sizes, a mixed number, a count, leans -/
structure SC (h : List O) (i gi li : Nat) (great : List Int) (mixed cnt : Int) (leans : List Int) : Prop where
  at_ : h[i]? = some (.lst [.ref gi, zW mixed, zW cnt, .ref li])
  g : h[gi]? = some (.lst (great.map zW))
  l : h[li]? = some (.lst (leans.map zW))
  n1 : i ≠ gi
  n2 : i ≠ li
  n3 : gi ≠ li
  len : leans.length = 8
  few : great.length < 1000
/-- what it does to the heap -/
structure Ld (i gi li : Nat) (h h' : List O) : Prop where
  sc : ∃ great mixed cnt leans, SC h' i gi li great mixed cnt leans
  len : h'.length = h.length
  oth : ∀ j, j ≠ i → j ≠ gi → j ≠ li → h'[j]? = h[j]?
theorem SC.cnt {h : List O} {i gi li : Nat} {great leans : List Int} {mixed cnt : Int} (S : SC h i gi li great mixed cnt leans) (m c : Int) : SC (h.set i (.lst [.ref gi, zW m, zW c, .ref li])) i gi li great m c leans :=
  ⟨List.getElem?_set_self (List.getElem?_eq_some_iff.mp S.at_).1, by rw [List.getElem?_set_ne S.n1]; exact S.g, by rw [List.getElem?_set_ne S.n2]; exact S.l, S.n1, S.n2, S.n3, S.len, S.few⟩
theorem SC.great {h : List O} {i gi li : Nat} {great leans : List Int} {mixed cnt : Int} (S : SC h i gi li great mixed cnt leans) (g' : List Int) (hf : g'.length < 1000) : SC (h.set gi (.lst (g'.map zW))) i gi li g' mixed cnt leans :=
  ⟨by rw [List.getElem?_set_ne (Ne.symm S.n1)]; exact S.at_, List.getElem?_set_self (List.getElem?_eq_some_iff.mp S.g).1, by rw [List.getElem?_set_ne S.n3]; exact S.l, S.n1, S.n2, S.n3, S.len, hf⟩

theorem zix {s : S} {j u : Nat} {ws : List W} {w : W} {e : Ex} {v : Int} (hv : v = (u : Int)) (h0 : e s = .ok (.w (.ref j)) s) (h1 : s.h[j]? = some (.lst ws)) (h2 : ws[u]? = some w) : op2 ixV e (kE (.int v)) s = .ok (.w w) s := by
  subst hv
  exact op2_ev h0 rfl (ix_ref h1 h2)
theorem zput {s s1 : S} {j u : Nat} {ws : List W} {x : D} {a e : Ex} {v : Int} (hv : v = (u : Int)) (he : e s = .ok (.w (.d x)) s1) (h0 : a s1 = .ok (.w (.ref j)) s1) (h1 : s1.h[j]? = some (.lst ws)) (h2 : u < ws.length) : putS a (kE (.int v)) e s = .nx ⟨s1.ρ, s1.h.set j (.lst (ws.set u (.d x)))⟩ := by
  subst hv
  exact put_ev he h0 rfl rfl (put_ref h1 h2)
theorem pop_ref {s : S} {j : Nat} {ws : List W} {w : W} (h1 : s.h[j]? = some (.lst ws)) (h2 : ws.getLast? = some w) : popV s (.w (.ref j)) [] = some (.w w, ⟨s.ρ, s.h.set j (.lst ws.dropLast)⟩) := by
  show (match getO s (.hp j) with
    | some (.lst ws) => match ws.getLast? with
      | some x => some (R.w x, setO s (.hp j) (.lst ws.dropLast))
      | none => none
    | _ => none) = _
  rw [show getO s (.hp j) = some (.lst ws) from h1]
  simp only
  rw [h2]
  rfl
theorem app_ref {s : S} {j : Nat} {ws : List W} {x : D} (h1 : s.h[j]? = some (.lst ws)) (h2 : ws.length < LN) : appendV s (.w (.ref j)) [.w (.d x)] = some (.w (.d .non), ⟨s.ρ, s.h.set j (.lst (ws ++ [.d x]))⟩) := by
  show (match getO s (.hp j) with
    | some (.lst ws) => if ws.length < LN then some (R.w (.d .non), setO s (.hp j) (.lst (ws ++ [W.d x]))) else none
    | _ => none) = _
  rw [show getO s (.hp j) = some (.lst ws) from h1]
  simp only
  rw [if_pos h2]
  rfl
theorem isl_ref {s : S} {j : Nat} {ws : List W} (h1 : s.h[j]? = some (.lst ws)) : isLst s (.w (.ref j)) = true := by
  unfold isLst
  rw [show objR s (.w (.ref j)) = some (.lst ws) from h1]
theorem tru_ref {s : S} {j : Nat} {ws : List W} (h1 : s.h[j]? = some (.lst ws)) : tru s (.w (.ref j)) = some (!ws.isEmpty) := by
  show (match objR s (.w (.ref j)) with
    | some (.lst ws) => some (!ws.isEmpty)
    | some (.dct false kvs) => some (!kvs.isEmpty)
    | _ => none) = _
  rw [show objR s (.w (.ref j)) = some (.lst ws) from h1]

theorem mul_v {s : S} {i j : Int} (h : j.natAbs < 2 ^ 64) : mulV s (iR i) (iR j) = some (iR (i * j)) := by
  show (if mulOk i j then some (iR (i * j)) else none) = _
  rw [if_pos (by unfold mulOk; rw [decide_eq_true h]; simp)]
theorem mod_v {s : S} {i j : Int} (h : 0 < j) : modV s (iR i) (iR j) = some (iR (i % j)) := by
  show (if 0 < j then some (iR (i % j)) else none) = _
  rw [if_pos h]
theorem div_v {s : S} {i j : Int} (h : 0 < j) (h2 : j ≤ 1000) : divV s (iR i) (iR j) = some (iR (i / j)) := by
  show (if 0 < j ∧ j.natAbs.log2 < 9000 then some (iR (i / j)) else none) = _
  have : j.natAbs.log2 < 9000 := Nat.lt_of_le_of_lt (Nat.log2_le_self _) (by omega)
  rw [if_pos ⟨h, this⟩]
abbrev L8 : Mn.St := seqS (setS 4 (op2 ixV (op2 ixV (vE 0) (kE (.int 3))) (vE 1))) (seqS (ifS (tst (op2 ltV (vE 4) (kE (.int 4)))) (retS (kE (.int 0))) (nxS)) (seqS (ifS (tst (op2 ltV (vE 4) (kE (.int 8)))) (retS (op2 subV (vE 2) (kE (.int 1)))) (nxS)) (seqS (ifS (tst (op2 ltV (vE 4) (kE (.int 12)))) (retS (op2 modV (op1 intV (op2 addV (op2 mulV (vE 4) (kE (.int 6))) (kE (.int 1)))) (vE 2))) (nxS)) (retS (op2 modV (op1 intV (op2 divV (op2 ixV (vE 0) (kE (.int 1))) (kE (.int 401)))) (vE 2))))))
theorem l8_ev {h : List O} {i gi li p : Nat} {great leans : List Int} {mixed cnt m : Int} (S : SC h i gi li great mixed cnt leans) (hp : p < 8) (h1 : 1 ≤ m) (h2 : m ≤ 1000) {e3 e4 : E0} :
    ∃ r st, L8 ⟨[.w (.ref i), .w (zW p), .w (zW m), e3, e4], h⟩ = .rt (iR r) st ∧ st.h = h ∧ 0 ≤ r ∧ r < m := by
  have hl : p < leans.length := by rw [S.len]; exact hp
  have g : (leans.map zW)[p]? = some (zW leans[p]) := by rw [List.getElem?_map, List.getElem?_eq_getElem hl]; rfl
  generalize leans[p] = lean at g
  have A : op2 ixV (op2 ixV (vE 0) (kE (.int 3))) (vE 1) ⟨[.w (.ref i), .w (zW p), .w (zW m), e3, e4], h⟩ = .ok (iR lean) ⟨[.w (.ref i), .w (zW p), .w (zW m), e3, e4], h⟩ := op2_ev (zix (u := 3) rfl rfl S.at_ rfl) rfl (ix_ref S.l g)
  have lt : ∀ v : Int, tst (op2 ltV (vE 4) (kE (.int v))) ⟨[.w (.ref i), .w (zW p), .w (zW m), e3, .w (zW lean)], h⟩ = .ok (decide (lean < v)) ⟨[.w (.ref i), .w (zW p), .w (zW m), e3, .w (zW lean)], h⟩ := fun v => tst_b (op2_ev rfl rfl rfl)
  have fin : ∀ {x r : Int}, r = x % m → 0 ≤ r ∧ r < m := fun e => by subst e; exact ⟨Int.emod_nonneg _ (by omega), Int.emod_lt_of_pos _ (by omega)⟩
  have st : setS 4 (op2 ixV (op2 ixV (vE 0) (kE (.int 3))) (vE 1)) ⟨[.w (.ref i), .w (zW p), .w (zW m), e3, e4], h⟩ = .nx ⟨[.w (.ref i), .w (zW p), .w (zW m), e3, .w (zW lean)], h⟩ := set_ev A rfl
  by_cases q4 : lean < 4
  · have l4 := lt 4
    rw [decide_eq_true q4] at l4
    exact ⟨0, _, seq_nx st (seq_rt (if_t l4 rfl)), rfl, by omega, by omega⟩
  · have l4 := lt 4
    rw [decide_eq_false q4] at l4
    by_cases q8 : lean < 8
    · have l8 := lt 8
      rw [decide_eq_true q8] at l8
      exact ⟨m - 1, _, seq_nx st (seq_nx (if_f l4 rfl) (seq_rt (if_t l8 rfl))), rfl, by omega, by omega⟩
    · have l8 := lt 8
      rw [decide_eq_false q8] at l8
      by_cases q12 : lean < 12
      · have l12 := lt 12
        rw [decide_eq_true q12] at l12
        refine ⟨(lean * 6 + 1) % m, _, seq_nx st (seq_nx (if_f l4 rfl) (seq_nx (if_f l8 rfl) (seq_rt (if_t l12 (ret_ev (op2_ev (op1_ev (op2_ev (op2_ev rfl rfl (mul_v (by decide))) rfl rfl) rfl) rfl (mod_v (by omega)))))))), rfl, fin rfl⟩
      · have l12 := lt 12
        rw [decide_eq_false q12] at l12
        refine ⟨(mixed / 401) % m, _, seq_nx st (seq_nx (if_f l4 rfl) (seq_nx (if_f l8 rfl) (seq_nx (if_f l12 rfl) (ret_ev (op2_ev (op1_ev (op2_ev (zix (u := 1) rfl rfl S.at_ rfl) rfl (div_v (by omega) (by omega))) rfl) rfl (mod_v (by omega))))))), rfl, fin rfl⟩

/-- the count goes up -/
theorem cnt_ev {h : List O} {i gi li : Nat} {great leans : List Int} {mixed cnt : Int} (S : SC h i gi li great mixed cnt leans) {a1 a2 : W} :
    putS (vE 0) (kE (.int 2)) (op2 addV (op2 ixV (vE 0) (kE (.int 2))) (kE (.int 1))) ⟨[.w (.ref i), .w a1, .w a2, .un, .un], h⟩ = .nx ⟨[.w (.ref i), .w a1, .w a2, .un, .un], h.set i (.lst [.ref gi, zW mixed, zW (cnt + 1), .ref li])⟩ := by
  have v0 : vE 0 ⟨[.w (.ref i), .w a1, .w a2, .un, .un], h⟩ = .ok (.w (.ref i)) ⟨[.w (.ref i), .w a1, .w a2, .un, .un], h⟩ := rfl
  have x2 := zix (u := 2) (v := 2) rfl v0 S.at_ rfl
  have e : op2 addV (op2 ixV (vE 0) (kE (.int 2))) (kE (.int 1)) ⟨[.w (.ref i), .w a1, .w a2, .un, .un], h⟩ = .ok (.w (.d (.int (cnt + 1)))) ⟨[.w (.ref i), .w a1, .w a2, .un, .un], h⟩ := op2_ev x2 rfl rfl
  exact zput (u := 2) (v := 2) rfl e v0 S.at_ (by show 2 < 4; omega)
theorem load0 {h : List O} {i gi li p : Nat} {leans : List Int} {mixed cnt m : Int} (call : Call) (S : SC h i gi li [] mixed cnt leans) (hp : p < 8) (h1 : 1 ≤ m) (h2 : m ≤ 1000) :
    ∃ r st, B8 call ⟨[.w (.ref i), .w (zW p), .w (zW m), .un, .un], h⟩ = .rt (iR r) st ∧ Ld i gi li h st.h ∧ 0 ≤ r ∧ r < m := by
  have S1 := S.cnt mixed (cnt + 1)
  generalize hh1 : h.set i (.lst [.ref gi, zW mixed, zW (cnt + 1), .ref li]) = hA at S1
  have S2 := S1.cnt ((mixed * 24001 + (cnt + 1) * 167 + (p : Int)) % 2147482873) (cnt + 1)
  obtain ⟨r, st, E, hs, r1, r2⟩ := l8_ev S2 hp h1 h2 (e3 := .un) (e4 := .un)
  have C := cnt_ev S (a1 := zW p) (a2 := zW m)
  rw [hh1] at C
  have v0 : vE 0 ⟨[.w (.ref i), .w (zW p), .w (zW m), .un, .un], hA⟩ = .ok (.w (.ref i)) ⟨[.w (.ref i), .w (zW p), .w (zW m), .un, .un], hA⟩ := rfl
  have x0 := zix (u := 0) (v := 0) rfl v0 S1.at_ rfl
  have x1 := zix (u := 1) (v := 1) rfl v0 S1.at_ rfl
  have x2 := zix (u := 2) (v := 2) rfl v0 S1.at_ rfl
  have t0 : tst (op2 ixV (vE 0) (kE (.int 0))) ⟨[.w (.ref i), .w (zW p), .w (zW m), .un, .un], hA⟩ = .ok false ⟨[.w (.ref i), .w (zW p), .w (zW m), .un, .un], hA⟩ := tst_ev x0 (tru_ref (ws := []) S1.g)
  have m1 := op2_ev (f := mulV) (b := kE (.int 24001)) (y := iR 24001) x1 rfl (mul_v (by decide))
  have m2 := op2_ev (f := mulV) (b := kE (.int 167)) (y := iR 167) x2 rfl (mul_v (by decide))
  have a1 := op2_ev (f := addV) (r := iR (mixed * 24001 + (cnt + 1) * 167)) m1 m2 rfl
  have a2 := op2_ev (f := addV) (b := vE 1) (y := iR (p : Int)) (r := iR (mixed * 24001 + (cnt + 1) * 167 + (p : Int))) a1 rfl rfl
  have a3 := op1_ev (f1 := intV) (r := iR (mixed * 24001 + (cnt + 1) * 167 + (p : Int))) a2 rfl
  have a4 := op2_ev (f := modV) (b := kE (.int 2147482873)) (y := iR 2147482873) a3 rfl (mod_v (by decide))
  have P := zput (u := 1) (v := 1) (a := vE 0) rfl a4 v0 S1.at_ (by show 1 < 4; omega)
  refine ⟨r, st, seq_nx C (seq_nx (if_f t0 rfl) (seq_nx P E)), ?_, r1, r2⟩
  rw [hs]
  refine ⟨⟨_, _, _, _, S2⟩, by rw [← hh1]; simp, fun j j1 j2 j3 => ?_⟩
  rw [List.getElem?_set_ne (Ne.symm j1), ← hh1, List.getElem?_set_ne (Ne.symm j1)]

theorem load1 {h : List O} {i gi li p : Nat} {g0 : List Int} {sz : Int} {leans : List Int} {mixed cnt m : Int} (call : Call) (S : SC h i gi li (g0 ++ [sz]) mixed cnt leans) (h1 : 1 ≤ m) (h2 : m ≤ 1000) :
    ∃ r st, B8 call ⟨[.w (.ref i), .w (zW p), .w (zW m), .un, .un], h⟩ = .rt (iR r) st ∧ Ld i gi li h st.h ∧ 0 ≤ r ∧ r < m := by
  have S1 := S.cnt mixed (cnt + 1)
  generalize hh1 : h.set i (.lst [.ref gi, zW mixed, zW (cnt + 1), .ref li]) = hA at S1
  have hf := S.few
  rw [List.length_append] at hf
  simp only [List.length_cons, List.length_nil] at hf
  have S2 := S1.great g0 (by omega)
  generalize hh2 : hA.set gi (.lst (g0.map zW)) = hB at S2
  have S3 := S2.great (g0 ++ [sz / m]) (by rw [List.length_append]; simp only [List.length_cons, List.length_nil]; omega)
  have C := cnt_ev S (a1 := zW p) (a2 := zW m)
  rw [hh1] at C
  have v0 : vE 0 ⟨[.w (.ref i), .w (zW p), .w (zW m), .un, .un], hA⟩ = .ok (.w (.ref i)) ⟨[.w (.ref i), .w (zW p), .w (zW m), .un, .un], hA⟩ := rfl
  have x0 := zix (u := 0) (v := 0) rfl v0 S1.at_ rfl
  have t0 : tst (op2 ixV (vE 0) (kE (.int 0))) ⟨[.w (.ref i), .w (zW p), .w (zW m), .un, .un], hA⟩ = .ok true ⟨[.w (.ref i), .w (zW p), .w (zW m), .un, .un], hA⟩ := tst_ev x0 ((tru_ref S1.g).trans (by rw [List.map_append]; simp))
  have po : popV ⟨[.w (.ref i), .w (zW p), .w (zW m), .un, .un], hA⟩ (.w (.ref gi)) [] = some (.w (zW sz), ⟨[.w (.ref i), .w (zW p), .w (zW m), .un, .un], hB⟩) := by
    have := pop_ref (s := ⟨[.w (.ref i), .w (zW p), .w (zW m), .un, .un], hA⟩) (w := zW sz) S1.g (by rw [List.map_append]; simp)
    rw [List.map_append] at this
    simp only [List.map_cons, List.map_nil, List.dropLast_concat, hh2] at this
    exact this
  have P : setS 3 (op1 intV (meth popV (op2 ixV (vE 0) (kE (.int 0))) asN)) ⟨[.w (.ref i), .w (zW p), .w (zW m), .un, .un], hA⟩ = .nx ⟨[.w (.ref i), .w (zW p), .w (zW m), .w (zW sz), .un], hB⟩ :=
    set_ev (x := iR sz) (op1_ev (meth_ev x0 (isl_ref S1.g) asN_ev po) rfl) rfl
  have v0' : vE 0 ⟨[.w (.ref i), .w (zW p), .w (zW m), .w (zW sz), .un], hB⟩ = .ok (.w (.ref i)) ⟨[.w (.ref i), .w (zW p), .w (zW m), .w (zW sz), .un], hB⟩ := rfl
  have x0' := zix (u := 0) (v := 0) rfl v0' S2.at_ rfl
  have ge : tst (op2 geV (vE 3) (vE 2)) ⟨[.w (.ref i), .w (zW p), .w (zW m), .w (zW sz), .un], hB⟩ = .ok (decide (m ≤ sz)) ⟨[.w (.ref i), .w (zW p), .w (zW m), .w (zW sz), .un], hB⟩ := tst_b (op2_ev rfl rfl rfl)
  have rt : ∀ h3 : List O, retS (op2 modV (vE 3) (vE 2)) ⟨[.w (.ref i), .w (zW p), .w (zW m), .w (zW sz), .un], h3⟩ = .rt (iR (sz % m)) ⟨[.w (.ref i), .w (zW p), .w (zW m), .w (zW sz), .un], h3⟩ := fun h3 => ret_ev (op2_ev rfl rfl (mod_v (by omega)))
  have oth : ∀ j, j ≠ i → j ≠ gi → j ≠ li → hB[j]? = h[j]? := fun j j1 j2 j3 => by
    rw [← hh2, List.getElem?_set_ne (Ne.symm j2), ← hh1, List.getElem?_set_ne (Ne.symm j1)]
  have lenB : hB.length = h.length := by rw [← hh2, List.length_set, ← hh1, List.length_set]
  have r1 : 0 ≤ sz % m := Int.emod_nonneg _ (by omega)
  have r2 : sz % m < m := Int.emod_lt_of_pos _ (by omega)
  by_cases q : m ≤ sz
  · rw [decide_eq_true q] at ge
    have ap : appendV ⟨[.w (.ref i), .w (zW p), .w (zW m), .w (zW sz), .un], hB⟩ (.w (.ref gi)) [.w (.d (.int (sz / m)))] = some (.w (.d .non), ⟨[.w (.ref i), .w (zW p), .w (zW m), .w (zW sz), .un], hB.set gi (.lst ((g0 ++ [sz / m]).map zW))⟩) := by
      have := app_ref (s := ⟨[.w (.ref i), .w (zW p), .w (zW m), .w (zW sz), .un], hB⟩) (x := .int (sz / m)) S2.g (by rw [List.length_map]; show g0.length < 16777216; omega)
      rw [List.map_append]
      exact this
    have A : exprS (meth appendV (op2 ixV (vE 0) (kE (.int 0))) (asC (op2 divV (vE 3) (vE 2)) asN)) ⟨[.w (.ref i), .w (zW p), .w (zW m), .w (zW sz), .un], hB⟩ = .nx ⟨[.w (.ref i), .w (zW p), .w (zW m), .w (zW sz), .un], hB.set gi (.lst ((g0 ++ [sz / m]).map zW))⟩ :=
      expr_ev (meth_ev x0' (isl_ref S2.g) (asC_ev (op2_ev rfl rfl (div_v (by omega) h2)) asN_ev) ap)
    refine ⟨sz % m, _, seq_nx C (seq_rt (if_t t0 (seq_nx P (seq_nx (if_t ge A) (rt _))))), ⟨⟨_, _, _, _, S3⟩, by show (hB.set gi _).length = _; rw [List.length_set]; exact lenB, fun j j1 j2 j3 => ?_⟩, r1, r2⟩
    show (hB.set gi _)[j]? = _
    rw [List.getElem?_set_ne (Ne.symm j2)]
    exact oth j j1 j2 j3
  · rw [decide_eq_false q] at ge
    exact ⟨sz % m, _, seq_nx C (seq_rt (if_t t0 (seq_nx P (seq_nx (if_f ge rfl) (rt _))))), ⟨⟨_, _, _, _, S2⟩, lenB, oth⟩, r1, r2⟩
/-- _law_load -/
theorem load_sp (k : Nat) {h : List O} {i gi li p : Nat} {great leans : List Int} {mixed cnt m : Int} (S : SC h i gi li great mixed cnt leans) (hp : p < 8) (h1 : 1 ≤ m) (h2 : m ≤ 1000) :
    ∃ r h', callF fns (k + 1) 8 [.ref i, zW p, zW m] h = .ok (iR r) h' ∧ Ld i gi li h h' ∧ 0 ≤ r ∧ r < m := by
  have c0 := call_t k 8 3 5 B8 [.ref i, zW p, zW m] h rfl rfl
  have e : [W.ref i, zW p, zW m].map E0.w ++ List.replicate (5 - 3) E0.un = [.w (.ref i), .w (zW p), .w (zW m), .un, .un] := rfl
  rw [e] at c0
  rw [c0]
  have fin : (∃ r st, B8 (callF fns k) ⟨[.w (.ref i), .w (zW p), .w (zW m), .un, .un], h⟩ = .rt (iR r) st ∧ Ld i gi li h st.h ∧ 0 ≤ r ∧ r < m) → ∃ r h', outF (B8 (callF fns k) ⟨[.w (.ref i), .w (zW p), .w (zW m), .un, .un], h⟩) = .ok (iR r) h' ∧ Ld i gi li h h' ∧ 0 ≤ r ∧ r < m := fun ⟨r, st, B, l, r1, r2⟩ => by
    rw [B]
    exact ⟨r, st.h, rfl, l, r1, r2⟩
  rcases List.eq_nil_or_concat great with rfl | ⟨g0, sz, rfl⟩
  · exact fin (load0 _ S hp h1 h2)
  · rw [List.concat_eq_append] at S
    exact fin (load1 _ S h1 h2)
end HeadT

set_option linter.all false
set_option maxRecDepth 100000
set_option maxHeartbeats 1000000
namespace HeadT
open Mn BF
/-- the scale stands at i -/
def Sc (i gi li : Nat) (h : List O) : Prop := ∃ great mixed cnt leans, SC h i gi li great mixed cnt leans
theorem Ld.trans {i gi li : Nat} {h h1 h2 : List O} (a : Ld i gi li h h1) (b : Ld i gi li h1 h2) : Ld i gi li h h2 :=
  ⟨b.sc, b.len.trans a.len, fun j j1 j2 j3 => (b.oth j j1 j2 j3).trans (a.oth j j1 j2 j3)⟩
/-- a call of _law_load -/
theorem cl_load (k : Nat) {s : S} {i gi li p : Nat} {e0 e : Ex} {v m : Int} (hv : v = (p : Int)) (v0 : e0 s = .ok (.w (.ref i)) s) (ve : e s = .ok (iR m) s) (S : Sc i gi li s.h) (hp : p < 8) (h1 : 1 ≤ m) (h2 : m ≤ 1000) :
    ∃ r h', callH (callF fns (k + 1)) 8 (asC e0 (asC (kE (.int v)) (asC e asN))) s = .ok (iR r) ⟨s.ρ, h'⟩ ∧ Ld i gi li s.h h' ∧ 0 ≤ r ∧ r < m := by
  subst hv
  obtain ⟨great, mixed, cnt, leans, S⟩ := S
  obtain ⟨r, h', C, l, r1, r2⟩ := load_sp k S hp h1 h2
  exact ⟨r, h', (callH_ev (asC_ev v0 (asC_ev rfl (asC_ev ve asN_ev))) rfl (callV_n rfl C)).trans rfl, l, r1, r2⟩

def big : Int := 1000000000000000000000000000000000000000000
/-- _law_weight -/
theorem weight_sp (k : Nat) {h : List O} {i gi li : Nat} (S : Sc i gi li h) (great : Bool) : ∃ r h', callF fns (k + 2) 9 [.ref i, .d (.bl great)] h = .ok (iR r) h' ∧ Ld i gi li h h' ∧ -big ≤ r ∧ r ≤ big := by
  have c0 := call_t (k + 1) 9 2 3 B9 [.ref i, .d (.bl great)] h rfl rfl
  have e : [W.ref i, .d (.bl great)].map E0.w ++ List.replicate (3 - 2) E0.un = [.w (.ref i), .w (.d (.bl great)), .un] := rfl
  rw [e] at c0
  rw [c0]
  obtain ⟨ra, ha, Ca, la, a1, a2⟩ := cl_load k (s := ⟨[.w (.ref i), .w (.d (.bl great)), .un], h⟩) (i := i) (p := 0) (e0 := vE 0) (e := kE (.int 9)) (v := 0) (m := 9) rfl rfl rfl S (by omega) (by omega) (by omega)
  obtain ⟨rb, hb, Cb, lb, b1, b2⟩ := cl_load k (s := ⟨[.w (.ref i), .w (.d (.bl great)), .un], ha⟩) (i := i) (p := 1) (e0 := vE 0) (e := kE (.int 30)) (v := 1) (m := 30) rfl rfl rfl la.sc (by omega) (by omega) (by omega)
  obtain ⟨rc, hc, Cc, lc, c1, c2⟩ := cl_load k (s := ⟨[.w (.ref i), .w (.d (.bl great)), .un], hb⟩) (i := i) (p := 2) (e0 := vE 0) (e := kE (.int 3)) (v := 2) (m := 3) rfl rfl rfl lb.sc (by omega) (by omega) (by omega)
  have tup : tupE (asC (op2 subV (callH (callF fns (k + 1)) 8 (asC (vE 0) (asC (kE (.int 0)) (asC (kE (.int 9)) (asN))))) (kE (.int 2))) (asC (op2 subV (callH (callF fns (k + 1)) 8 (asC (vE 0) (asC (kE (.int 1)) (asC (kE (.int 30)) (asN))))) (kE (.int 8))) (asC (kE (.int 0)) (asN)))) ⟨[.w (.ref i), .w (.d (.bl great)), .un], h⟩ = .ok (.w (.d (.tup [.int (ra - 2), .int (rb - 8), .int 0]))) ⟨[.w (.ref i), .w (.d (.bl great)), .un], hb⟩ :=
    tup_ev (ws := [zW (ra - 2), zW (rb - 8), zW 0]) (asC_ev (op2_ev Ca rfl rfl) (asC_ev (op2_ev Cb rfl rfl) (asC_ev rfl asN_ev))) rfl (by show 3 ≤ 16777216; omega)
  obtain ⟨nb, hnb, n1, n2⟩ : ∃ nb : Int, [D.int (ra - 2), .int (rb - 8), .int 0][rc.toNat]? = some (.int nb) ∧ -30 ≤ nb ∧ nb ≤ 30 := by
    have : rc.toNat = 0 ∨ rc.toNat = 1 ∨ rc.toNat = 2 := by omega
    rcases this with q | q | q <;> rw [q]
    · exact ⟨_, rfl, by omega, by omega⟩
    · exact ⟨_, rfl, by omega, by omega⟩
    · exact ⟨_, rfl, by omega, by omega⟩
  have ix := op2_ev (f := ixV) tup Cc (r := .w (.d (.int nb))) (by
    have := ix_tup (s := ⟨[.w (.ref i), .w (.d (.bl great)), .un], hc⟩) hnb
    rw [Int.toNat_of_nonneg c1] at this
    exact this)
  have st := set_ev (i := 2) ix (s2 := ⟨[.w (.ref i), .w (.d (.bl great)), .w (zW nb)], hc⟩) rfl
  cases great with
  | false =>
    refine ⟨nb, hc, ?_, (la.trans lb).trans lc, by unfold big; omega, by unfold big; omega⟩
    have B := seq_nx (q := retS (iteE (tst (vE 1)) (op2 addV (op2 mulV (vE 2) (op2 powV (kE (.int 10)) (kE (.int 40)))) (callH (callF fns (k + 1)) 8 (asC (vE 0) (asC (kE (.int 3)) (asC (kE (.int 3)) (asN)))))) (vE 2))) st (ret_ev (ite_f (s1 := ⟨[.w (.ref i), .w (.d (.bl false)), .w (zW nb)], hc⟩) rfl (r := .ok (iR nb) ⟨[.w (.ref i), .w (.d (.bl false)), .w (zW nb)], hc⟩) rfl))
    exact congrArg outF B
  | true =>
    obtain ⟨rd, hd, Cd, ld, d1, d2⟩ := cl_load k (s := ⟨[.w (.ref i), .w (.d (.bl true)), .w (zW nb)], hc⟩) (i := i) (p := 3) (e0 := vE 0) (e := kE (.int 3)) (v := 3) (m := 3) rfl rfl rfl lc.sc (by omega) (by omega) (by omega)
    refine ⟨nb * 10 ^ 40 + rd, hd, ?_, ((la.trans lb).trans lc).trans ld, by unfold big; omega, by unfold big; omega⟩
    have pw : op2 powV (kE (.int 10)) (kE (.int 40)) ⟨[.w (.ref i), .w (.d (.bl true)), .w (zW nb)], hc⟩ = .ok (iR (10 ^ 40)) ⟨[.w (.ref i), .w (.d (.bl true)), .w (zW nb)], hc⟩ := by rfl
    have ml : op2 mulV (vE 2) (op2 powV (kE (.int 10)) (kE (.int 40))) ⟨[.w (.ref i), .w (.d (.bl true)), .w (zW nb)], hc⟩ = .ok (iR (nb * 10 ^ 40)) ⟨[.w (.ref i), .w (.d (.bl true)), .w (zW nb)], hc⟩ := by
      refine op2_ev rfl pw ?_
      show (if mulOk nb (10 ^ 40) then some (iR (nb * 10 ^ 40)) else none) = _
      rw [if_pos (by unfold mulOk; rw [decide_eq_true (show nb.natAbs < 2 ^ 64 by omega)]; rfl)]
    have B := seq_nx (q := retS (iteE (tst (vE 1)) (op2 addV (op2 mulV (vE 2) (op2 powV (kE (.int 10)) (kE (.int 40)))) (callH (callF fns (k + 1)) 8 (asC (vE 0) (asC (kE (.int 3)) (asC (kE (.int 3)) (asN)))))) (vE 2))) st (ret_ev (ite_t (s1 := ⟨[.w (.ref i), .w (.d (.bl true)), .w (zW nb)], hc⟩) rfl (op2_ev ml Cd rfl)))
    exact congrArg outF B
end HeadT

set_option linter.all false
set_option maxRecDepth 100000
set_option maxHeartbeats 1000000
namespace HeadT
open Mn BF
abbrev S7 : Mn.St := (seqS (setS 4 (op2 modV (op1 absV (op1 intV (vE 3))) (op2 shlV (kE (.int 1)) (kE (.int 1470))))) (seqS (setS 2 (op2 modV (op1 intV (op2 addV (op2 addV (op2 addV (op2 mulV (vE 2) (kE (.int 22003))) (op2 mulV (op2 modV (vE 4) (kE (.int 1001911))) (kE (.int 89)))) (op1 intV (op2 ltV (op1 intV (vE 3)) (kE (.int 0))))) (kE (.int 62)))) (kE (.int 2147482873)))) (ifS (tst (op2 geV (vE 4) (op2 powV (kE (.int 10)) (kE (.int 18))))) (setS 1 (op2 addV (lstE (asC (vE 4) (asN))) (vE 1))) (nxS))))
theorem s7_turn {a0 : W} {g : List Int} {mx c : Int} {e4 e5 e6 : E0} {h : List O} (hg : g.length < 1000) :
    ∃ (g' : List Int) (mx' : Int) (e4' : E0), S7 ⟨[.w a0, .own (.lst (g.map zW)), .w (zW mx), .w (zW c), e4, e5, e6], h⟩ = .nx ⟨[.w a0, .own (.lst (g'.map zW)), .w (zW mx'), .w (zW c), e4', e5, e6], h⟩ ∧ g'.length ≤ g.length + 1 := by
  obtain ⟨P, hP, hP2⟩ : ∃ P : Int, shlV ⟨[.w a0, .own (.lst (g.map zW)), .w (zW mx), .w (zW c), e4, e5, e6], h⟩ (iR 1) (iR 1470) = some (iR P) ∧ 0 < P := by
    refine ⟨1 * 2 ^ (1470 : Int).toNat, ?_, ?_⟩
    · show (if (0 : Int) ≤ 1470 ∧ (1470 : Int) ≤ 1000000 ∧ (1 : Int).natAbs < 2 ^ 64 then some (iR (1 * 2 ^ (1470 : Int).toNat)) else none) = _
      rw [if_pos (by decide)]
    · rw [Int.one_mul]
      exact Int.pow_pos (by decide)
  generalize hsz : (if c < 0 then -c else c) % P = sz
  have A : setS 4 (op2 modV (op1 absV (op1 intV (vE 3))) (op2 shlV (kE (.int 1)) (kE (.int 1470)))) ⟨[.w a0, .own (.lst (g.map zW)), .w (zW mx), .w (zW c), e4, e5, e6], h⟩ = .nx ⟨[.w a0, .own (.lst (g.map zW)), .w (zW mx), .w (zW c), .w (zW sz), e5, e6], h⟩ :=
    set_ev (x := iR sz) (op2_ev (x := iR (if c < 0 then -c else c)) (op1_ev (x := iR c) (op1_ev rfl rfl) rfl) (op2_ev rfl rfl hP) (by rw [mod_v hP2, hsz])) rfl
  have m1 : op2 mulV (vE 2) (kE (.int 22003)) ⟨[.w a0, .own (.lst (g.map zW)), .w (zW mx), .w (zW c), .w (zW sz), e5, e6], h⟩ = .ok (iR (mx * 22003)) ⟨[.w a0, .own (.lst (g.map zW)), .w (zW mx), .w (zW c), .w (zW sz), e5, e6], h⟩ := op2_ev rfl rfl (mul_v (by decide))
  have m2 : op2 mulV (op2 modV (vE 4) (kE (.int 1001911))) (kE (.int 89)) ⟨[.w a0, .own (.lst (g.map zW)), .w (zW mx), .w (zW c), .w (zW sz), e5, e6], h⟩ = .ok (iR (sz % 1001911 * 89)) ⟨[.w a0, .own (.lst (g.map zW)), .w (zW mx), .w (zW c), .w (zW sz), e5, e6], h⟩ := op2_ev (op2_ev rfl rfl (mod_v (by decide))) rfl (mul_v (by decide))
  have m3 : op1 intV (op2 ltV (op1 intV (vE 3)) (kE (.int 0))) ⟨[.w a0, .own (.lst (g.map zW)), .w (zW mx), .w (zW c), .w (zW sz), e5, e6], h⟩ = .ok (iR (if decide (c < 0) = true then 1 else 0)) ⟨[.w a0, .own (.lst (g.map zW)), .w (zW mx), .w (zW c), .w (zW sz), e5, e6], h⟩ := op1_ev (x := bR (decide (c < 0))) (op2_ev (x := iR c) (op1_ev rfl rfl) rfl rfl) rfl
  have s1 := op2_ev (f := addV) (r := iR (mx * 22003 + sz % 1001911 * 89)) m1 m2 rfl
  have s2 := op2_ev (f := addV) (r := iR (mx * 22003 + sz % 1001911 * 89 + (if decide (c < 0) = true then 1 else 0))) s1 m3 rfl
  have s3 := op2_ev (f := addV) (b := kE (.int 62)) (y := iR 62) (r := iR (mx * 22003 + sz % 1001911 * 89 + (if decide (c < 0) = true then 1 else 0) + 62)) s2 rfl rfl
  have s4 := op1_ev (f1 := intV) (r := iR (mx * 22003 + sz % 1001911 * 89 + (if decide (c < 0) = true then 1 else 0) + 62)) s3 rfl
  have s5 := op2_ev (f := modV) (b := kE (.int 2147482873)) (y := iR 2147482873) s4 rfl (mod_v (by decide))
  generalize hm : (mx * 22003 + sz % 1001911 * 89 + (if decide (c < 0) = true then 1 else 0) + 62) % 2147482873 = mx' at s5
  have Bm := set_ev (i := 2) s5 (s2 := ⟨[.w a0, .own (.lst (g.map zW)), .w (zW mx'), .w (zW c), .w (zW sz), e5, e6], h⟩) rfl
  have pw : op2 powV (kE (.int 10)) (kE (.int 18)) ⟨[.w a0, .own (.lst (g.map zW)), .w (zW mx'), .w (zW c), .w (zW sz), e5, e6], h⟩ = .ok (iR (10 ^ 18)) ⟨[.w a0, .own (.lst (g.map zW)), .w (zW mx'), .w (zW c), .w (zW sz), e5, e6], h⟩ := rfl
  have t : tst (op2 geV (vE 4) (op2 powV (kE (.int 10)) (kE (.int 18)))) ⟨[.w a0, .own (.lst (g.map zW)), .w (zW mx'), .w (zW c), .w (zW sz), e5, e6], h⟩ = .ok (decide ((10 : Int) ^ 18 ≤ sz)) ⟨[.w a0, .own (.lst (g.map zW)), .w (zW mx'), .w (zW c), .w (zW sz), e5, e6], h⟩ := tst_b (op2_ev rfl pw rfl)
  by_cases q : (10 : Int) ^ 18 ≤ sz
  · rw [decide_eq_true q] at t
    refine ⟨sz :: g, mx', .w (zW sz), seq_nx A (seq_nx Bm (if_t t (set_ev (x := .new (.lst ((sz :: g).map zW))) (op2_ev (lst_ev (ws := [zW sz]) (asC_ev rfl asN_ev) rfl (by show 1 ≤ 16777216; omega)) rfl ?_) rfl))), by simp⟩
    show (if [zW sz].length + (g.map zW).length ≤ LN then some (R.new (.lst ([zW sz] ++ g.map zW))) else none) = _
    rw [if_pos (by simp only [List.length_map, List.length_cons, List.length_nil]; show 0 + 1 + g.length ≤ 16777216; omega)]
    rfl
  · rw [decide_eq_false q] at t
    exact ⟨g, mx', .w (zW sz), seq_nx A (seq_nx Bm (if_f t rfl)), by omega⟩

theorem s7_loop {a0 : W} {e5 e6 : E0} {h : List O} {k : Option (Nat × O)} (hk : ∀ ρ, kept ⟨ρ, h⟩ k = true) : ∀ (cs : List Int) (g : List Int) (mx : Int) (e3 e4 : E0), g.length + cs.length < 1000 →
    ∃ (g' : List Int) (mx' : Int) (e3' e4' : E0), forL k (tgV 3) S7 (cs.map zW) ⟨[.w a0, .own (.lst (g.map zW)), .w (zW mx), e3, e4, e5, e6], h⟩ = .nx ⟨[.w a0, .own (.lst (g'.map zW)), .w (zW mx'), e3', e4', e5, e6], h⟩ ∧ g'.length < 1000
  | [], g, mx, e3, e4, hl => ⟨g, mx, e3, e4, forL_nil (hk _), by simpa using hl⟩
  | c :: cs, g, mx, e3, e4, hl => by
    simp only [List.length_cons] at hl
    obtain ⟨g', mx', e4', T, tl⟩ := s7_turn (a0 := a0) (g := g) (mx := mx) (c := c) (e4 := e4) (e5 := e5) (e6 := e6) (h := h) (by omega)
    obtain ⟨g2, mx2, e3', e4'', L, l2⟩ := s7_loop hk cs g' mx' (.w (zW c)) e4' (by omega)
    exact ⟨g2, mx2, e3', e4'', forL_cons (hk _) rfl T L, l2⟩
abbrev P7 : Mn.St := (seqS (setS 2 (op2 modV (op1 intV (op2 addV (op2 addV (op2 mulV (vE 2) (kE (.int 8009))) (op2 mulV (kE (.int 229)) (vE 6))) (kE (.int 107)))) (kE (.int 2147482873)))) (exprS (meth appendV (vE 5) (asC (op2 modV (op1 intV (op2 divV (vE 2) (kE (.int 397)))) (kE (.int 80))) (asN)))))
theorem p7_turn {a0 : W} {l : List Int} {mx : Int} {p : Nat} {e1 e3 e4 : E0} {h : List O} (hl : l.length < 1000) (hp : p < 8) :
    ∃ (mx' v : Int), P7 ⟨[.w a0, e1, .w (zW mx), e3, e4, .own (.lst (l.map zW)), .w (zW p)], h⟩ = .nx ⟨[.w a0, e1, .w (zW mx'), e3, e4, .own (.lst ((l ++ [v]).map zW)), .w (zW p)], h⟩ := by
  have m1 : op2 mulV (vE 2) (kE (.int 8009)) ⟨[.w a0, e1, .w (zW mx), e3, e4, .own (.lst (l.map zW)), .w (zW p)], h⟩ = .ok (iR (mx * 8009)) ⟨[.w a0, e1, .w (zW mx), e3, e4, .own (.lst (l.map zW)), .w (zW p)], h⟩ := op2_ev rfl rfl (mul_v (by decide))
  have m2 : op2 mulV (kE (.int 229)) (vE 6) ⟨[.w a0, e1, .w (zW mx), e3, e4, .own (.lst (l.map zW)), .w (zW p)], h⟩ = .ok (iR (229 * (p : Int))) ⟨[.w a0, e1, .w (zW mx), e3, e4, .own (.lst (l.map zW)), .w (zW p)], h⟩ := op2_ev rfl rfl (mul_v (by omega))
  have s1 := op2_ev (f := addV) (r := iR (mx * 8009 + 229 * (p : Int))) m1 m2 rfl
  have s3 := op2_ev (f := addV) (b := kE (.int 107)) (y := iR 107) (r := iR (mx * 8009 + 229 * (p : Int) + 107)) s1 rfl rfl
  have s4 := op1_ev (f1 := intV) (r := iR (mx * 8009 + 229 * (p : Int) + 107)) s3 rfl
  have s5 := op2_ev (f := modV) (b := kE (.int 2147482873)) (y := iR 2147482873) s4 rfl (mod_v (by decide))
  generalize hm : (mx * 8009 + 229 * (p : Int) + 107) % 2147482873 = mx' at s5
  have Bm := set_ev (i := 2) s5 (s2 := ⟨[.w a0, e1, .w (zW mx'), e3, e4, .own (.lst (l.map zW)), .w (zW p)], h⟩) rfl
  have v : op2 modV (op1 intV (op2 divV (vE 2) (kE (.int 397)))) (kE (.int 80)) ⟨[.w a0, e1, .w (zW mx'), e3, e4, .own (.lst (l.map zW)), .w (zW p)], h⟩ = .ok (iR (mx' / 397 % 80)) ⟨[.w a0, e1, .w (zW mx'), e3, e4, .own (.lst (l.map zW)), .w (zW p)], h⟩ := op2_ev (op1_ev (x := iR (mx' / 397)) (op2_ev rfl rfl (div_v (by decide) (by decide))) rfl) rfl (mod_v (by decide))
  refine ⟨mx', mx' / 397 % 80, seq_nx Bm (expr_ev (x := .w (.d .non)) (meth_ev rfl rfl (asC_ev v asN_ev) ?_))⟩
  show (if (l.map zW).length < LN then some _ else none) = _
  rw [if_pos (by rw [List.length_map]; show l.length < 16777216; omega), List.map_append]
  rfl

theorem p7_loop {a0 : W} {e1 e3 e4 : E0} {h : List O} : ∀ (ps : List Nat) (l : List Int) (mx : Int) (e6 : E0), (∀ p ∈ ps, p < 8) → l.length + ps.length < 1000 →
    ∃ (l' : List Int) (mx' : Int) (e6' : E0), forL none (tgV 6) P7 (ps.map iW) ⟨[.w a0, e1, .w (zW mx), e3, e4, .own (.lst (l.map zW)), e6], h⟩ = .nx ⟨[.w a0, e1, .w (zW mx'), e3, e4, .own (.lst (l'.map zW)), e6'], h⟩ ∧ l'.length = l.length + ps.length
  | [], l, mx, e6, _, _ => ⟨l, mx, e6, forL_nil rfl, rfl⟩
  | p :: ps, l, mx, e6, hp, hl => by
    simp only [List.length_cons] at hl
    obtain ⟨mx', v, T⟩ := p7_turn (a0 := a0) (l := l) (mx := mx) (p := p) (e1 := e1) (e3 := e3) (e4 := e4) (h := h) (by omega) (hp p List.mem_cons_self)
    obtain ⟨l2, mx2, e6', L, l3⟩ := p7_loop (a0 := a0) (e1 := e1) (e3 := e3) (e4 := e4) (h := h) ps (l ++ [v]) mx' (.w (zW p)) (fun q hq => hp q (List.mem_cons_of_mem _ hq)) (by rw [List.length_append]; simp only [List.length_cons, List.length_nil]; omega)
    refine ⟨l2, mx2, e6', forL_cons rfl rfl T L, ?_⟩
    rw [l3, List.length_append]
    simp only [List.length_cons, List.length_nil]
    omega
/-- _law_scale -/
theorem scale_sp (k : Nat) (ns : List Int) : ∃ (great leans : List Int) (mixed : Int) (h : List O), callF fns (k + 1) 7 [.scr ns] [] = .ok (.new (.lst [.ref 1, zW mixed, zW 4, .ref 2])) h ∧ h.length = 3 ∧ h[1]? = some (.lst (great.map zW)) ∧ h[2]? = some (.lst (leans.map zW)) ∧ great.length < 1000 ∧ leans.length = 8 := by
  have c0 := call_t k 7 1 7 B7 [.scr ns] [] rfl rfl
  have e : [W.scr ns].map E0.w ++ List.replicate (7 - 1) E0.un = [.w (.scr ns), .un, .un, .un, .un, .un, .un] := rfl
  rw [e] at c0
  have hcl : (Mn.cut ns none (some 51)).length ≤ 51 := by
    unfold Mn.cut
    rw [List.length_take]
    have : Mn.sIx ns.length ns.length (some 51) ≤ 51 := by
      show (if (51 : Int) < 0 then ((51 : Int) + (ns.length : Int)).toNat else min (51 : Int).toNat ns.length) ≤ 51
      rw [if_neg (by decide)]
      exact Nat.min_le_left _ _
    omega
  generalize hcs : Mn.cut ns none (some 51) = cs at hcl
  have it : itE (slE (vE 0) (noO) (someO (kE (.int 51)))) ⟨[.w (.scr ns), .own (.lst []), .w (zW 69019), .un, .un, .un, .un], []⟩ = .ok ⟨cs.map zW, some (0, .lst (cs.map zW))⟩ ⟨[.w (.scr ns), .own (.lst []), .w (zW 69019), .un, .un, .un, .un], [.lst (cs.map zW)]⟩ := by
    rw [← hcs]
    rfl
  obtain ⟨g', mx', e3', e4', L, gl⟩ := s7_loop (a0 := .scr ns) (e5 := .un) (e6 := .un) (h := [.lst (cs.map zW)]) (k := some (0, .lst (cs.map zW))) (fun ρ => by simp [kept]) cs [] 69019 .un .un (by simp only [List.length_nil]; omega)
  obtain ⟨l', mx2, e6', L2, ll⟩ := p7_loop (a0 := .scr ns) (e1 := .own (.lst (g'.map zW))) (e3 := e3') (e4 := e4') (h := [.lst (cs.map zW)]) (List.range 8) [] mx' .un (fun p hp => List.mem_range.mp hp) (by simp)
  have r0 : itR1 (kE (.int 8)) ⟨[.w (.scr ns), .own (.lst (g'.map zW)), .w (zW mx'), e3', e4', .own (.lst []), .un], [.lst (cs.map zW)]⟩ = .ok ⟨(List.range 8).map iW, none⟩ ⟨[.w (.scr ns), .own (.lst (g'.map zW)), .w (zW mx'), e3', e4', .own (.lst []), .un], [.lst (cs.map zW)]⟩ := itR1_ev (m := 8) rfl (small_ok (by decide) (by decide))
  have B : B7 (callF fns k) ⟨[.w (.scr ns), .un, .un, .un, .un, .un, .un], []⟩ = .rt (.new (.lst [.ref 1, zW mx2, zW 4, .ref 2])) ⟨[.w (.scr ns), .w (.ref 1), .w (zW mx2), e3', e4', .w (.ref 2), e6'], [.lst (cs.map zW), .lst (g'.map zW), .lst (l'.map zW)]⟩ :=
    seq_nx rfl (seq_nx rfl (seq_nx (for_ev it L) (seq_nx rfl (seq_nx (for_ev r0 L2) (ret_ev (lst_ev (ws := [.ref 1, zW mx2, zW 4, .ref 2]) (asC_ev rfl (asC_ev rfl (asC_ev rfl (asC_ev rfl asN_ev)))) rfl (by show 4 ≤ 16777216; omega)))))))
  rw [B] at c0
  exact ⟨g', l', mx2, _, c0, rfl, rfl, rfl, gl, by rw [ll]; simp⟩
end HeadT

set_option linter.all false
set_option maxRecDepth 100000
set_option maxHeartbeats 1000000
namespace HeadT
open Mn BF
/-- a comprehension without a test, the heap on its way -/
theorem lc_st {t : Tg} {e : Ex} {vs : List Nat} {G : S → Prop} {Q : D → Prop} (fr : ∀ s, G s → frees vs s = true) : ∀ (ws acc : List W) (s : S), G s →
    (∀ w ∈ ws, ∀ s, G s → ∃ (s1 s2 : S) (x : D), t (.w w) ⟨Mn.wipe vs s.ρ, s.h⟩ = some s1 ∧ e s1 = .ok (.w (.d x)) s2 ∧ G s2 ∧ Q x) → acc.length + ws.length < LN →
    ∃ (xs : List D) (s' : S), xs.length = ws.length ∧ (∀ x ∈ xs, Q x) ∧ G s' ∧ lcL none t yesT e vs ws acc s = some (acc ++ xs.map W.d, s')
  | [], acc, s, g, _, _ => by
    refine ⟨[], s, rfl, (fun _ h => by cases h), g, ?_⟩
    unfold lcL
    rw [if_pos (by rw [fr s g]; rfl)]
    simp
  | w :: ws, acc, s, g, st, hl => by
    simp only [List.length_cons] at hl
    obtain ⟨s1, s2, x, h1, h2, g2, q⟩ := st w List.mem_cons_self s g
    obtain ⟨xs, s', l1, l2, l3, l4⟩ := lc_st (t := t) (e := e) fr ws (acc ++ [.d x]) s2 g2 (fun w hw => st w (List.mem_cons_of_mem _ hw)) (by rw [List.length_append]; simp only [List.length_cons, List.length_nil]; omega)
    refine ⟨x :: xs, s', by simp [l1], fun y hy => ?_, l3, ?_⟩
    · rcases List.mem_cons.mp hy with rfl | hy
      · exact q
      · exact l2 y hy
    · unfold lcL
      rw [if_pos (by rw [fr s g]; rfl), h1]
      show (match e s1 with
        | .ok r s3 => (match boxR r s3 with
          | some (y, s4) => if acc.length < LN then lcL none t yesT e vs ws (acc ++ [y]) s4 else none
          | none => none)
        | _ => none) = _
      rw [h2]
      show (if acc.length < LN then lcL none t yesT e vs ws (acc ++ [.d x]) s2 else none) = _
      rw [if_pos (by omega), l4, List.append_assoc]
      rfl
end HeadT

set_option linter.all false
set_option maxRecDepth 100000
set_option maxHeartbeats 1000000
namespace HeadT
open Mn BF
-- MAC
local macro_rules
  | `(tactic| sizeOf_list_dec) => `(tactic| first | exact rfl | with_reducible assumption | exact decide_eq_true (by omega) | exact decide_eq_false (by omega) | (rw [Bool.not_eq_true']; exact decide_eq_false (by omega)) | (rw [Bool.not_eq_false']; exact decide_eq_true (by omega)) | (simp (config := { decide := true }) only [*, decide_true, decide_false, Bool.not_true, Bool.not_false]; done))
local macro_rules
  | `(tactic| array_mem_dec) => `(tactic| first
    | ((with_reducible apply mul_v); omega)
    | ((with_reducible apply mul_one); omega)
    | ((with_reducible apply mul_tup); omega)
    | with_reducible exact tup_map
    | with_reducible exact eqV_int
    | with_reducible exact neV_int
    | ((with_reducible apply ins_slot); exact rfl; ((show (_ : Nat) < 16777216); (try simp only [List.length_map, List.length_append, List.length_cons, List.length_nil]); omega); omega; omega)
    | ((with_reducible apply str_v); assumption)
    | ((with_reducible apply isi_ref); assumption)
    | ((with_reducible apply add_tup); (try simp only [List.length_map, List.length_append, List.length_replicate, List.length_cons, List.length_nil]); omega)
    | ((with_reducible apply mod_v); omega)
    | ((with_reducible apply div_v) <;> omega)
    | ((with_reducible apply app_slot); exact rfl; (show (_ : Nat) < 16777216); (try simp only [List.length_map, List.length_append, List.length_cons, List.length_nil]); omega)
    | ((with_reducible apply pop_slot); exact rfl; omega; omega; first | assumption | exact rfl)
    | ((with_reducible apply putz_own); exact rfl; omega; (try simp only [List.length_set, List.length_map, List.length_append, List.length_replicate, List.length_cons, List.length_nil]); omega)
    | ((with_reducible apply putz_ref); assumption; omega; (try simp only [List.length_set, List.length_map, List.length_append, List.length_replicate, List.length_cons, List.length_nil]); omega)
    | ((with_reducible apply ixz_own); exact rfl; omega; first | assumption | exact rfl)
    | ((with_reducible apply ixz_tup); omega; first | assumption | exact rfl)
    | ((with_reducible apply ixz_ref); assumption; omega; first | assumption | exact rfl)
    | exact rfl
    | assumption)
local macro_rules
  | `(tactic| array_get_dec) => `(tactic| first
    | with_reducible exact kE_ev
    | ((with_reducible apply vE_w); exact rfl)
    | ((with_reducible apply vE_o); exact rfl)
    | ((with_reducible apply op2_ev); array_get_dec; array_get_dec; array_mem_dec)
    | ((with_reducible apply op1_ev); array_get_dec; array_mem_dec)
    | with_reducible exact asN_ev
    | ((with_reducible apply asC_ev); array_get_dec; array_get_dec)
    | ((with_reducible apply tupD_ev); array_get_dec; exact rfl; exact rfl; (show (_ : Nat) ≤ 16777216); simp)
    | ((with_reducible apply tup_ev); array_get_dec; exact rfl; (show (_ : Nat) ≤ 16777216); simp)
    | ((with_reducible apply lst_ev); array_get_dec; exact rfl; (show (_ : Nat) ≤ 16777216); simp)
    | ((with_reducible apply callH_ev); array_get_dec; exact rfl; first | (apply callV_p; exact rfl; assumption; exact rfl) | (apply callV_q; exact rfl; assumption))
    | ((with_reducible apply callE_q); array_get_dec; exact rfl; assumption)
    | ((with_reducible apply meth_ev); array_get_dec; (first | exact rfl | exact isl_ref (by assumption)); array_get_dec; array_mem_dec)
    | ((with_reducible apply tst_eq); array_get_dec; array_mem_dec; exact rfl)
    | ((with_reducible apply notT_eq); array_get_dec; exact rfl)
    | ((with_reducible apply and_c); array_get_dec; first | (left; refine ⟨?_, ?_⟩; sizeOf_list_dec; array_get_dec) | (right; refine ⟨?_, ?_⟩; sizeOf_list_dec; exact rfl))
    | ((with_reducible apply or_c); array_get_dec; first | (left; refine ⟨?_, ?_⟩; sizeOf_list_dec; exact rfl) | (right; refine ⟨?_, ?_⟩; sizeOf_list_dec; array_get_dec))
    | ((with_reducible apply andE_c); array_get_dec; array_mem_dec; first | (left; refine ⟨?_, ?_⟩; sizeOf_list_dec; array_get_dec) | (right; refine ⟨?_, ?_⟩; sizeOf_list_dec; exact rfl))
    | ((with_reducible apply orE_c); array_get_dec; array_mem_dec; first | (left; refine ⟨?_, ?_⟩; sizeOf_list_dec; exact rfl) | (right; refine ⟨?_, ?_⟩; sizeOf_list_dec; array_get_dec))
    | ((with_reducible apply chE_t); array_get_dec; array_get_dec; array_mem_dec; array_get_dec; array_mem_dec)
    | ((with_reducible apply chE_f); array_get_dec; array_get_dec; array_mem_dec)
    | ((with_reducible apply ite_c); array_get_dec; first | (left; refine ⟨?_, ?_⟩; sizeOf_list_dec; array_get_dec) | (right; refine ⟨?_, ?_⟩; sizeOf_list_dec; array_get_dec))
    | ((with_reducible apply lc_ev); array_get_dec; assumption)
    | ((with_reducible apply sl_ev); array_get_dec; array_get_dec; array_get_dec; array_mem_dec)
    | with_reducible exact no_ev
    | ((with_reducible apply some_ev); array_get_dec)
    | ((with_reducible apply itR1_z); array_get_dec; omega; omega)
    | ((with_reducible apply itE_ev); array_get_dec; exact rfl)
    | with_reducible exact nx_ev
    | ((with_reducible apply seq_nx); array_get_dec; array_get_dec)
    | ((with_reducible apply seq_rt); array_get_dec)
    | ((with_reducible apply if_c); array_get_dec; first | (left; refine ⟨?_, ?_⟩; sizeOf_list_dec; array_get_dec) | (right; refine ⟨?_, ?_⟩; sizeOf_list_dec; array_get_dec))
    | ((with_reducible apply ret_ev); array_get_dec)
    | ((with_reducible apply set_ev); array_get_dec; exact rfl)
    | ((with_reducible apply expr_ev); array_get_dec)
    | ((with_reducible apply unp_ev); array_get_dec; exact rfl)
    | ((with_reducible apply par_ev); array_get_dec; exact rfl; exact rfl; exact rfl)
    | ((with_reducible apply for_ev); array_get_dec; assumption)
    | ((with_reducible apply put_ev); array_get_dec; array_get_dec; array_get_dec; exact rfl; array_mem_dec))
-- ENDMAC
/-- a call of _law_load, written with callF -/
theorem ld_call (k : Nat) {h : List O} {i gi li p : Nat} {v m : Int} (hv : v = (p : Int)) (S : Sc i gi li h) (hp : p < 8) (h1 : 1 ≤ m) (h2 : m ≤ 1000) :
    ∃ r h', callF fns (k + 1) 8 [.ref i, .d (.int v), .d (.int m)] h = .ok (iR r) h' ∧ Ld i gi li h h' ∧ 0 ≤ r ∧ r < m := by
  obtain ⟨great, mixed, cnt, leans, S⟩ := S
  subst hv
  exact load_sp k S hp h1 h2
theorem ix_own {s : S} {i u : Nat} {v : Int} {ws : List W} {w : W} (hv : v = (u : Int)) (e : s.ρ[i]? = some (.own (.lst ws))) (h : ws[u]? = some w) : ixV s (.slot i) (iR v) = some (.w w) := by
  subst hv; exact ix_slot e h
theorem map_get {α : Type} {f : α → W} {l : List α} {u : Nat} (h : u < l.length) : (l.map f)[u]? = some (f l[u]) := by rw [List.getElem?_map, List.getElem?_eq_getElem h]; rfl
abbrev eW (e : Ed) : W := .d (eD e)
abbrev B10_1 (call : Call) : Mn.St := (seqS (parS 7 8 (asC (callH call 8 (asC (vE 0) (asC (kE (.int 4)) (asC (vE 1) (asN))))) (asC (callH call 8 (asC (vE 0) (asC (kE (.int 5)) (asC (vE 1) (asN))))) (asN)))) (seqS (setS 9 (op2 ixV (tupE (asC (kE (.int 0)) (asC (kE (.int 0)) (asC (callH call 8 (asC (vE 0) (asC (kE (.int 6)) (asC (kE (.int 7)) (asN))))) (asN))))) (callH call 8 (asC (vE 0) (asC (kE (.int 7)) (asC (kE (.int 3)) (asN))))))) (exprS (meth appendV (vE 5) (asC (tupE (asC (vE 7) (asC (vE 8) (asC (op2 addV (op2 subV (op2 ixV (vE 4) (vE 8)) (op2 ixV (vE 4) (vE 7))) (vE 9)) (asN))))) (asN))))))
theorem ed_turn (k : Nat) {i gi li n : Nat} {a2 a3 : W} {marks : List Int} {es : List Ed} {e6 e7 e8 e9 e10 : E0} {h : List O} (S : Sc i gi li h) (hm : marks.length = n) (h1 : 1 ≤ n) (h2 : n ≤ 1000) (hl : es.length < 1000) (hb : ∀ m ∈ marks, -big ≤ m ∧ m ≤ big) :
    ∃ (e : Ed) (h' : List O) (e9' : E0), B10_1 (callF fns (k + 1)) ⟨[.w (.ref i), .w (iW n), .w a2, .w a3, .own (.lst (marks.map zW)), .own (.lst (es.map eW)), e6, e7, e8, e9, e10], h⟩ = .nx ⟨[.w (.ref i), .w (iW n), .w a2, .w a3, .own (.lst (marks.map zW)), .own (.lst (es.map eW ++ [eW e])), e6, .w (iW e.1), .w (iW e.2.1), e9', e10], h'⟩ ∧ Ld i gi li h h' ∧ (e.1 < n ∧ e.2.1 < n) ∧ (marks.getD e.2.1 0 ≤ marks.getD e.1 0 + e.2.2) ∧ (-(4 * big) ≤ e.2.2 ∧ e.2.2 ≤ 4 * big) := by
  obtain ⟨ra, ha, Ca, la, a1, a2'⟩ := ld_call k (p := 4) (v := 4) (m := (n : Int)) rfl S (by omega) (by omega) (by omega)
  obtain ⟨rb, hb', Cb, lb, b1, b2⟩ := ld_call k (p := 5) (v := 5) (m := (n : Int)) rfl la.sc (by omega) (by omega) (by omega)
  obtain ⟨rc, hc, Cc, lc, c1, c2⟩ := ld_call k (p := 6) (v := 6) (m := 7) rfl lb.sc (by omega) (by omega) (by omega)
  obtain ⟨rd, hd, Cd, ld, d1, d2⟩ := ld_call k (p := 7) (v := 7) (m := 3) rfl lc.sc (by omega) (by omega) (by omega)
  obtain ⟨na, rfl⟩ := Int.eq_ofNat_of_zero_le a1
  obtain ⟨nb, rfl⟩ := Int.eq_ofNat_of_zero_le b1
  obtain ⟨sp, hsp, s1, s2⟩ : ∃ sp : Int, [D.int 0, .int 0, .int rc][rd.toNat]? = some (.int sp) ∧ 0 ≤ sp ∧ sp ≤ 7 := by
    have : rd.toNat = 0 ∨ rd.toNat = 1 ∨ rd.toNat = 2 := by omega
    rcases this with q | q | q <;> rw [q]
    · exact ⟨_, rfl, by omega, by omega⟩
    · exact ⟨_, rfl, by omega, by omega⟩
    · exact ⟨_, rfl, by omega, by omega⟩
  obtain ⟨nd, rfl⟩ := Int.eq_ofNat_of_zero_le d1
  have ga : na < marks.length := by omega
  have gb : nb < marks.length := by omega
  have qa := hb _ (List.getElem_mem ga)
  have qb := hb _ (List.getElem_mem gb)
  have ma := map_get (f := zW) ga
  have mb := map_get (f := zW) gb
  refine ⟨(na, nb, marks[nb] - marks[na] + sp), hd, .w (.d (.int sp)), ?_, ((la.trans lb).trans lc).trans ld, ⟨by show na < n; omega, by show nb < n; omega⟩, ?_, ?_⟩
  · apply nx_as
    · array_get_dec
    · rfl
  · show marks.getD nb 0 ≤ marks.getD na 0 + (marks[nb] - marks[na] + sp)
    rw [List.getD_eq_getElem?_getD, List.getD_eq_getElem?_getD, List.getElem?_eq_getElem ga, List.getElem?_eq_getElem gb]
    show marks[nb] ≤ marks[na] + (marks[nb] - marks[na] + sp)
    omega
  · show -(4 * big) ≤ marks[nb] - marks[na] + sp ∧ marks[nb] - marks[na] + sp ≤ 4 * big
    unfold big at *
    omega
theorem Ld.refl {i gi li : Nat} {h : List O} (S : Sc i gi li h) : Ld i gi li h h := ⟨S, rfl, fun _ _ _ _ => rfl⟩
def IED (i gi li n : Nat) (a2 a3 : W) (marks : List Int) (e10 : E0) (h0 : List O) (m : Nat) (s : Mn.S) : Prop :=
  ∃ (es : List Ed) (e6 e7 e8 e9 : E0) (h : List O), s = ⟨[.w (.ref i), .w (iW n), .w a2, .w a3, .own (.lst (marks.map zW)), .own (.lst (es.map eW)), e6, e7, e8, e9, e10], h⟩ ∧ Ld i gi li h0 h ∧ Ok n es ∧ es.length = m ∧ Pot es (fun v => marks.getD v 0) ∧ ∀ e ∈ es, -(4 * big) ≤ e.2.2 ∧ e.2.2 ≤ 4 * big
theorem ed_loop (k : Nat) {i gi li n : Nat} {a2 a3 : W} {marks : List Int} {e6 e7 e8 e9 e10 : E0} {h : List O} (S : Sc i gi li h) (hm : marks.length = n) (h1 : 1 ≤ n) (h2 : n ≤ 1000) (hb : ∀ m ∈ marks, -big ≤ m ∧ m ≤ big) (rows : Nat) (hr : rows < 1000) :
    ∃ s', forL none (tgV 6) (B10_1 (callF fns (k + 1))) ((List.range rows).map iW) ⟨[.w (.ref i), .w (iW n), .w a2, .w a3, .own (.lst (marks.map zW)), .own (.lst []), e6, e7, e8, e9, e10], h⟩ = .nx s' ∧ IED i gi li n a2 a3 marks e10 h (0 + ((List.range rows).map iW).length) s' := by
  refine forL_inv (I := IED i gi li n a2 a3 marks e10 h) _ 0 (fun _ _ _ => rfl) (fun m s w hw hI => ?_) ⟨[], e6, e7, e8, e9, h, rfl, Ld.refl S, fun _ h => by (cases h), rfl, fun _ h => by (cases h), fun _ h => by (cases h)⟩
  obtain ⟨es, e6, e7, e8, e9, h', rfl, ld, ok, len, pot, bd⟩ := hI
  have hm' := (List.getElem?_eq_some_iff.mp hw).1
  rw [List.length_map, List.length_range] at hm'
  obtain ⟨e, h2', e9', B, ld2, ⟨o1, o2⟩, p1, b1⟩ := ed_turn k (a2 := a2) (a3 := a3) (e6 := .w w) (e7 := e7) (e8 := e8) (e9 := e9) (e10 := e10) (es := es) ld.sc hm h1 h2 (by omega) hb
  refine ⟨_, _, rfl, B, es ++ [e], _, _, _, _, h2', by rw [List.map_append]; rfl, ld.trans ld2, ?_, by rw [List.length_append, len]; rfl, ?_, ?_⟩
  · intro f hf
    rcases List.mem_append.mp hf with hf | hf
    · exact ok f hf
    · rw [List.mem_singleton.mp hf]; exact ⟨o1, o2⟩
  · intro f hf
    rcases List.mem_append.mp hf with hf | hf
    · exact pot f hf
    · rw [List.mem_singleton.mp hf]; exact p1
  · intro f hf
    rcases List.mem_append.mp hf with hf | hf
    · exact bd f hf
    · rw [List.mem_singleton.mp hf]; exact b1
/-- _law_edges -/
theorem edges_sp (k : Nat) {i gi li n rows : Nat} {great : Bool} {h : List O} (S : Sc i gi li h) (h1 : 1 ≤ n) (h2 : n ≤ 1000) (hr : rows < 1000) :
    ∃ (es : List Ed) (h' : List O), callF fns (k + 3) 10 [.ref i, iW n, iW rows, .d (.bl great)] h = .ok (.new (.lst (es.map eW))) h' ∧ Ld i gi li h h' ∧ Ok n es ∧ es.length = rows ∧ (∃ p, Pot es p) ∧ ∀ e ∈ es, -(4 * big) ≤ e.2.2 ∧ e.2.2 ≤ 4 * big := by
  obtain ⟨xs, s', x1, x2, ⟨h', e10, rfl, ld, fr⟩, x4⟩ := lc_st (t := tgV 10) (e := callH (callF fns (k + 2)) 9 (asC (vE 0) (asC (vE 3) (asN)))) (vs := [10]) (Q := fun x => ∃ m : Int, x = .int m ∧ -big ≤ m ∧ m ≤ big)
    (G := fun s => ∃ (h' : List O) (e10 : E0), s = ⟨[.w (.ref i), .w (iW n), .w (iW rows), .w (.d (.bl great)), .un, .un, .un, .un, .un, .un, e10], h'⟩ ∧ Ld i gi li h h' ∧ e10.free = true)
    (fun s g => by obtain ⟨h', e10, rfl, _, f⟩ := g; show (e10.free && true) = true; rw [f]; rfl) ((List.range n).map iW) [] ⟨[.w (.ref i), .w (iW n), .w (iW rows), .w (.d (.bl great)), .un, .un, .un, .un, .un, .un, .un], h⟩ ⟨h, .un, rfl, Ld.refl S, rfl⟩
    (fun w hw s g => by
      obtain ⟨h', e10, rfl, ld, f⟩ := g
      obtain ⟨r, h2, C, ld2, r1, r2⟩ := weight_sp k ld.sc great
      refine ⟨_, ⟨[.w (.ref i), .w (iW n), .w (iW rows), .w (.d (.bl great)), .un, .un, .un, .un, .un, .un, .w w], h2⟩, .int r, rfl, ?_, ⟨h2, _, rfl, ld.trans ld2, rfl⟩, r, rfl, r1, r2⟩
      apply ok_as
      · array_get_dec
      · rfl
      · rfl) (by rw [List.length_map, List.length_range]; show 0 + n < 16777216; omega)
  obtain ⟨marks, rfl, hb⟩ : ∃ marks : List Int, xs = marks.map D.int ∧ ∀ m ∈ marks, -big ≤ m ∧ m ≤ big := by
    clear x1 x4
    induction xs with
    | nil => exact ⟨[], rfl, fun _ h => by cases h⟩
    | cons x xs ih =>
      obtain ⟨m, rfl, m1, m2⟩ := x2 x List.mem_cons_self
      obtain ⟨ms, rfl, q⟩ := ih fun y hy => x2 y (List.mem_cons_of_mem _ hy)
      exact ⟨m :: ms, rfl, fun y hy => by
        rcases List.mem_cons.mp hy with rfl | hy
        · exact ⟨m1, m2⟩
        · exact q y hy⟩
  have hm : marks.length = n := by simpa using x1
  rw [List.map_map, show (W.d ∘ D.int) = zW from rfl, List.nil_append] at x4
  obtain ⟨s', L, es, e6, e7, e8, e9, h3, rfl, ld3, ok, len, pot, bd⟩ := ed_loop (k + 1) (a2 := iW rows) (a3 := .d (.bl great)) (e6 := .un) (e7 := .un) (e8 := .un) (e9 := .un) (e10 := .un) ld.sc hm h1 h2 hb rows hr
  rw [List.length_map, List.length_range, Nat.zero_add] at len
  refine ⟨es, h3, ?_, ld.trans ld3, ok, len, ⟨_, pot⟩, bd⟩
  apply call_rt (B := B10) (ρ := [.w (.ref i), .w (iW n), .w (iW rows), .w (.d (.bl great)), .un, .un, .un, .un, .un, .un, .un]) rfl rfl rfl
  · unfold B10
    array_get_dec
  · exact rfl
end HeadT

set_option linter.all false
set_option maxRecDepth 100000
set_option maxHeartbeats 1000000
namespace HeadT
open Mn BF
-- MAC
local macro_rules
  | `(tactic| sizeOf_list_dec) => `(tactic| first | exact rfl | with_reducible assumption | exact decide_eq_true (by omega) | exact decide_eq_false (by omega) | (rw [Bool.not_eq_true']; exact decide_eq_false (by omega)) | (rw [Bool.not_eq_false']; exact decide_eq_true (by omega)) | (simp (config := { decide := true }) only [*, decide_true, decide_false, Bool.not_true, Bool.not_false]; done))
local macro_rules
  | `(tactic| array_mem_dec) => `(tactic| first
    | ((with_reducible apply mul_v); omega)
    | ((with_reducible apply mul_one); omega)
    | ((with_reducible apply mul_tup); omega)
    | with_reducible exact tup_map
    | with_reducible exact eqV_int
    | with_reducible exact neV_int
    | ((with_reducible apply ins_slot); exact rfl; ((show (_ : Nat) < 16777216); (try simp only [List.length_map, List.length_append, List.length_cons, List.length_nil]); omega); omega; omega)
    | ((with_reducible apply str_v); assumption)
    | ((with_reducible apply isi_ref); assumption)
    | ((with_reducible apply add_tup); (try simp only [List.length_map, List.length_append, List.length_replicate, List.length_cons, List.length_nil]); omega)
    | ((with_reducible apply mod_v); omega)
    | ((with_reducible apply div_v) <;> omega)
    | ((with_reducible apply app_slot); exact rfl; (show (_ : Nat) < 16777216); (try simp only [List.length_map, List.length_append, List.length_cons, List.length_nil]); omega)
    | ((with_reducible apply pop_slot); exact rfl; omega; omega; first | assumption | exact rfl)
    | ((with_reducible apply putz_own); exact rfl; omega; (try simp only [List.length_set, List.length_map, List.length_append, List.length_replicate, List.length_cons, List.length_nil]); omega)
    | ((with_reducible apply putz_ref); assumption; omega; (try simp only [List.length_set, List.length_map, List.length_append, List.length_replicate, List.length_cons, List.length_nil]); omega)
    | ((with_reducible apply ixz_own); exact rfl; omega; first | assumption | exact rfl)
    | ((with_reducible apply ixz_tup); omega; first | assumption | exact rfl)
    | ((with_reducible apply ixz_ref); assumption; omega; first | assumption | exact rfl)
    | exact rfl
    | assumption)
local macro_rules
  | `(tactic| array_get_dec) => `(tactic| first
    | with_reducible exact kE_ev
    | ((with_reducible apply vE_w); exact rfl)
    | ((with_reducible apply vE_o); exact rfl)
    | ((with_reducible apply op2_ev); array_get_dec; array_get_dec; array_mem_dec)
    | ((with_reducible apply op1_ev); array_get_dec; array_mem_dec)
    | with_reducible exact asN_ev
    | ((with_reducible apply asC_ev); array_get_dec; array_get_dec)
    | ((with_reducible apply tupD_ev); array_get_dec; exact rfl; exact rfl; (show (_ : Nat) ≤ 16777216); simp)
    | ((with_reducible apply tup_ev); array_get_dec; exact rfl; (show (_ : Nat) ≤ 16777216); simp)
    | ((with_reducible apply lst_ev); array_get_dec; exact rfl; (show (_ : Nat) ≤ 16777216); simp)
    | ((with_reducible apply callH_ev); array_get_dec; exact rfl; first | (apply callV_p; exact rfl; assumption; exact rfl) | (apply callV_q; exact rfl; assumption))
    | ((with_reducible apply callE_q); array_get_dec; exact rfl; assumption)
    | ((with_reducible apply meth_ev); array_get_dec; (first | exact rfl | exact isl_ref (by assumption)); array_get_dec; array_mem_dec)
    | ((with_reducible apply tst_eq); array_get_dec; array_mem_dec; exact rfl)
    | ((with_reducible apply notT_eq); array_get_dec; exact rfl)
    | ((with_reducible apply and_c); array_get_dec; first | (left; refine ⟨?_, ?_⟩; sizeOf_list_dec; array_get_dec) | (right; refine ⟨?_, ?_⟩; sizeOf_list_dec; exact rfl))
    | ((with_reducible apply or_c); array_get_dec; first | (left; refine ⟨?_, ?_⟩; sizeOf_list_dec; exact rfl) | (right; refine ⟨?_, ?_⟩; sizeOf_list_dec; array_get_dec))
    | ((with_reducible apply andE_c); array_get_dec; array_mem_dec; first | (left; refine ⟨?_, ?_⟩; sizeOf_list_dec; array_get_dec) | (right; refine ⟨?_, ?_⟩; sizeOf_list_dec; exact rfl))
    | ((with_reducible apply orE_c); array_get_dec; array_mem_dec; first | (left; refine ⟨?_, ?_⟩; sizeOf_list_dec; exact rfl) | (right; refine ⟨?_, ?_⟩; sizeOf_list_dec; array_get_dec))
    | ((with_reducible apply chE_t); array_get_dec; array_get_dec; array_mem_dec; array_get_dec; array_mem_dec)
    | ((with_reducible apply chE_f); array_get_dec; array_get_dec; array_mem_dec)
    | ((with_reducible apply ite_c); array_get_dec; first | (left; refine ⟨?_, ?_⟩; sizeOf_list_dec; array_get_dec) | (right; refine ⟨?_, ?_⟩; sizeOf_list_dec; array_get_dec))
    | ((with_reducible apply lc_ev); array_get_dec; assumption)
    | ((with_reducible apply sl_ev); array_get_dec; array_get_dec; array_get_dec; array_mem_dec)
    | with_reducible exact no_ev
    | ((with_reducible apply some_ev); array_get_dec)
    | ((with_reducible apply itR1_z); array_get_dec; omega; omega)
    | ((with_reducible apply itE_ev); array_get_dec; exact rfl)
    | with_reducible exact nx_ev
    | ((with_reducible apply seq_nx); array_get_dec; array_get_dec)
    | ((with_reducible apply seq_rt); array_get_dec)
    | ((with_reducible apply if_c); array_get_dec; first | (left; refine ⟨?_, ?_⟩; sizeOf_list_dec; array_get_dec) | (right; refine ⟨?_, ?_⟩; sizeOf_list_dec; array_get_dec))
    | ((with_reducible apply ret_ev); array_get_dec)
    | ((with_reducible apply set_ev); array_get_dec; exact rfl)
    | ((with_reducible apply expr_ev); array_get_dec)
    | ((with_reducible apply unp_ev); array_get_dec; exact rfl)
    | ((with_reducible apply par_ev); array_get_dec; exact rfl; exact rfl; exact rfl)
    | ((with_reducible apply for_ev); array_get_dec; assumption)
    | ((with_reducible apply put_ev); array_get_dec; array_get_dec; array_get_dec; exact rfl; array_mem_dec))
-- ENDMAC
theorem er_map {α β : Type} (f : α → β) : ∀ (l : List α) (i : Nat), (l.map f).eraseIdx i = (l.eraseIdx i).map f
  | [], i => by simp
  | a :: l, 0 => by simp
  | a :: l, i + 1 => by simp [er_map f l i]
abbrev B11_1 (call : Call) : Mn.St := (exprS (meth appendV (vE 5) (asC (meth popV (vE 4) (asC (callH call 8 (asC (vE 0) (asC (kE (.int 5)) (asC (op1 lenV (vE 4)) (asN))))) (asN))) (asN))))
def IR1 (i gi li n : Nat) (a2 a3 : W) (h0 : List O) (m : Nat) (s : Mn.S) : Prop :=
  ∃ (l r : List Nat) (e6 : E0) (h : List O), s = ⟨[.w (.ref i), .w (iW n), .w a2, .w a3, .own (.lst (l.map iW)), .own (.lst (r.map iW)), e6, .un, .un, .un, .un], h⟩ ∧ Ld i gi li h0 h ∧ (∀ v ∈ l, v < n) ∧ (∀ v ∈ r, v < n) ∧ l.length + m = n ∧ r.length = m
theorem r1_loop (k : Nat) {i gi li n : Nat} {a2 a3 : W} {h : List O} (S : Sc i gi li h) (h2 : n ≤ 1000) (L : Nat) (hL : L ≤ n) :
    ∃ s', forL none (tgV 6) (B11_1 (callF fns (k + 1))) ((List.range L).map iW) ⟨[.w (.ref i), .w (iW n), .w a2, .w a3, .own (.lst ((List.range n).map iW)), .own (.lst []), .un, .un, .un, .un, .un], h⟩ = .nx s' ∧ IR1 i gi li n a2 a3 h (0 + ((List.range L).map iW).length) s' := by
  refine forL_inv (I := IR1 i gi li n a2 a3 h) _ 0 (fun _ _ _ => rfl) (fun m s w hw hI => ?_) ⟨List.range n, [], .un, h, rfl, Ld.refl S, fun v hv => List.mem_range.mp hv, fun _ h => (by cases h), by simp, rfl⟩
  obtain ⟨l, r, e6, h', rfl, ld, l1, r1, len, rl⟩ := hI
  have hm' := (List.getElem?_eq_some_iff.mp hw).1
  rw [List.length_map, List.length_range] at hm'
  have hl : (l.map iW).length = l.length := List.length_map _
  obtain ⟨ra, ha, Ca, la, a1, a2'⟩ := ld_call k (p := 5) (v := 5) (m := ((l.map iW).length : Int)) rfl ld.sc (by omega) (by omega) (by omega)
  have gl : ra.toNat < l.length := by omega
  have x := map_get (f := iW) gl
  have step : ∃ s2, B11_1 (callF fns (k + 1)) ⟨[.w (.ref i), .w (iW n), .w a2, .w a3, .own (.lst (l.map iW)), .own (.lst (r.map iW)), .w w, .un, .un, .un, .un], h'⟩ = .nx s2 ∧ s2 = ⟨[.w (.ref i), .w (iW n), .w a2, .w a3, .own (.lst ((l.map iW).eraseIdx ra.toNat)), .own (.lst (r.map iW ++ [iW l[ra.toNat]])), .w w, .un, .un, .un, .un], ha⟩ := by
    apply ex1
    · array_get_dec
    · exact rfl
  obtain ⟨s2, B, rfl⟩ := step
  refine ⟨_, _, rfl, B, l.eraseIdx ra.toNat, r ++ [l[ra.toNat]], .w w, ha, ?_, ld.trans la, fun v hv => l1 v (List.mem_of_mem_eraseIdx hv), fun v hv => ?_, ?_, ?_⟩
  · rw [List.map_append, er_map]; rfl
  · rcases List.mem_append.mp hv with hv | hv
    · exact r1 v hv
    · rw [List.mem_singleton.mp hv]; exact l1 _ (List.getElem_mem gl)
  · rw [List.length_eraseIdx_of_lt gl]; omega
  · rw [List.length_append, rl]; rfl
abbrev B11_2 (call : Call) : Mn.St := (seqS (setS 10 (iteE (tst (op2 ltV (op2 addV (vE 9) (kE (.int 1))) (op1 lenV (vE 5)))) (callH call 9 (asC (vE 0) (asC (vE 2) (asN)))) (vE 8))) (seqS (setS 8 (op2 subV (vE 8) (vE 10))) (exprS (meth appendV (vE 7) (asC (tupE (asC (op2 ixV (vE 5) (vE 9)) (asC (op2 ixV (vE 5) (op2 modV (op1 intV (op2 addV (vE 9) (kE (.int 1)))) (op1 lenV (vE 5)))) (asC (vE 10) (asN))))) (asN))))))
theorem r2_turn (k : Nat) {i gi li n m : Nat} {a1 a3 : W} {great : Bool} {row : List Nat} {es : List Ed} {rest : Int} {e4 e6 e10 : E0} {h : List O} (S : Sc i gi li h) (hm : m < row.length) (hr : row.length ≤ 1000) (he : es.length < 1000) :
    ∃ (w : Int) (h' : List O), B11_2 (callF fns (k + 2)) ⟨[.w (.ref i), .w a1, .w (.d (.bl great)), .w a3, e4, .own (.lst (row.map iW)), e6, .own (.lst (es.map eW)), .w (zW rest), .w (iW m), e10], h⟩ = .nx ⟨[.w (.ref i), .w a1, .w (.d (.bl great)), .w a3, e4, .own (.lst (row.map iW)), e6, .own (.lst (es.map eW ++ [eW (row.getD m 0, row.getD ((m + 1) % row.length) 0, w)])), .w (zW (rest - w)), .w (iW m), .w (zW w)], h'⟩ ∧ Ld i gi li h h' ∧ ((m + 1 < row.length ∧ -big ≤ w ∧ w ≤ big) ∨ (m + 1 = row.length ∧ w = rest)) := by
  have hl : (row.map iW).length = row.length := List.length_map _
  have h0 : 0 < row.length := by omega
  have hq : (m + 1) % row.length < row.length := Nat.mod_lt _ h0
  have x := map_get (f := iW) hm
  have y := map_get (f := iW) hq
  have ey : ((m : Int) + 1) % ((row.map iW).length : Int) = (((m + 1) % row.length : Nat) : Int) := by rw [hl]; rfl
  have xz : (row.map iW)[((m : Int)).toNat]? = some (iW row[m]) := x
  have yz : (row.map iW)[(((m : Int) + 1) % ((row.map iW).length : Int)).toNat]? = some (iW row[(m + 1) % row.length]) := by rw [ey]; exact y
  have y0 : 0 ≤ ((m : Int) + 1) % ((row.map iW).length : Int) := by rw [ey]; omega
  have ge1 : row.getD m 0 = row[m] := by rw [List.getD_eq_getElem?_getD, List.getElem?_eq_getElem hm]; rfl
  have ge2 : row.getD ((m + 1) % row.length) 0 = row[(m + 1) % row.length] := by rw [List.getD_eq_getElem?_getD, List.getElem?_eq_getElem hq]; rfl
  rw [ge1, ge2]
  by_cases q : m + 1 < row.length
  · obtain ⟨w, h', C, ld, w1, w2⟩ := weight_sp k S great
    refine ⟨w, h', ?_, ld, .inl ⟨q, w1, w2⟩⟩
    apply nx_as
    · array_get_dec
    · rfl
  · refine ⟨rest, h, ?_, Ld.refl S, .inr ⟨by omega, rfl⟩⟩
    apply nx_as
    · array_get_dec
    · rfl
def IR2 (i gi li n : Nat) (a1 a3 : W) (great : Bool) (row : List Nat) (total : Int) (e4 e6 : E0) (h0 : List O) (m : Nat) (s : Mn.S) : Prop :=
  ∃ (es : List Ed) (rest : Int) (e9 e10 : E0) (h : List O), s = ⟨[.w (.ref i), .w a1, .w (.d (.bl great)), .w a3, e4, .own (.lst (row.map iW)), e6, .own (.lst (es.map eW)), .w (zW rest), e9, e10], h⟩ ∧ Ld i gi li h0 h ∧ Ok n es ∧ es.length = m ∧
    (∀ p, Pot es p → (m < row.length → p (row.getD m 0) ≤ p (row.getD 0 0) + (total - rest)) ∧ (m = row.length → 0 ≤ total)) ∧ (m < row.length → -(m * big) ≤ total - rest ∧ total - rest ≤ m * big) ∧ ∀ e ∈ es, -(1000 * big) ≤ e.2.2 ∧ e.2.2 ≤ 1000 * big
theorem r2_loop (k : Nat) {i gi li n : Nat} {a1 a3 : W} {great : Bool} {row : List Nat} {total : Int} {e4 e6 e9 e10 : E0} {h : List O} (S : Sc i gi li h) (hr : row.length ≤ 900) (h0 : 0 < row.length) (hn : ∀ v ∈ row, v < n) (ht : -big ≤ total ∧ total ≤ big) :
    ∃ s', forL none (tgV 9) (B11_2 (callF fns (k + 2))) ((List.range row.length).map iW) ⟨[.w (.ref i), .w a1, .w (.d (.bl great)), .w a3, e4, .own (.lst (row.map iW)), e6, .own (.lst []), .w (zW total), e9, e10], h⟩ = .nx s' ∧ IR2 i gi li n a1 a3 great row total e4 e6 h (0 + ((List.range row.length).map iW).length) s' := by
  refine forL_inv (I := IR2 i gi li n a1 a3 great row total e4 e6 h) _ 0 (fun _ _ _ => rfl) (fun m s w hw hI => ?_) ⟨[], total, e9, e10, h, rfl, Ld.refl S, fun _ h => (by cases h), rfl, fun p _ => ⟨fun _ => by omega, fun z => by omega⟩, fun _ => by simp, fun _ h => (by cases h)⟩
  rw [Nat.zero_add] at hI
  obtain ⟨es, rest, e9, e10, h', rfl, ld, ok, len, pot, bd, be⟩ := hI
  have hm' := (List.getElem?_eq_some_iff.mp hw).1
  rw [List.length_map, List.length_range] at hm'
  have ew : w = iW m := by
    rw [List.getElem?_map, List.getElem?_eq_getElem (by rw [List.length_range]; exact hm')] at hw
    simpa using hw.symm
  subst ew
  obtain ⟨w, h2, B, ld2, wc⟩ := r2_turn k (m := m) (n := n) (a1 := a1) (a3 := a3) (great := great) (row := row) (es := es) (rest := rest) (e4 := e4) (e6 := e6) (e10 := e10) ld.sc hm' (by omega) (by omega)
  have hq : (m + 1) % row.length < row.length := Nat.mod_lt _ h0
  have ge1 : row.getD m 0 = row[m] := by rw [List.getD_eq_getElem?_getD, List.getElem?_eq_getElem hm']; rfl
  have ge2 : row.getD ((m + 1) % row.length) 0 = row[(m + 1) % row.length] := by rw [List.getD_eq_getElem?_getD, List.getElem?_eq_getElem hq]; rfl
  have bd := bd hm'
  have hmb : (m : Int) * big ≤ 900 * big := Int.mul_le_mul_of_nonneg_right (by omega) (by decide)
  refine ⟨_, _, rfl, B, es ++ [_], rest - w, _, _, h2, by rw [List.map_append]; rfl, ld.trans ld2, ?_, by rw [List.length_append, len]; simp, ?_, ?_, ?_⟩
  · intro f hf
    rcases List.mem_append.mp hf with hf | hf
    · exact ok f hf
    · rw [List.mem_singleton.mp hf]
      exact ⟨by rw [ge1]; exact hn _ (List.getElem_mem hm'), by rw [ge2]; exact hn _ (List.getElem_mem hq)⟩
  · intro p hp
    have P := (pot p fun e he => hp e (List.mem_append_left _ he)).1 hm'
    have Q : p (row.getD ((m + 1) % row.length) 0) ≤ p (row.getD m 0) + w := hp _ (List.mem_append_right _ (List.mem_singleton.mpr rfl))
    rw [Nat.zero_add]
    refine ⟨fun z => ?_, fun z => ?_⟩
    · rw [Nat.mod_eq_of_lt z] at Q
      omega
    · rw [z, Nat.mod_self] at Q
      rcases wc with ⟨z2, _⟩ | ⟨_, rfl⟩
      · omega
      · omega
  · intro z
    rw [Nat.zero_add] at z
    rcases wc with ⟨_, w1, w2⟩ | ⟨z2, _⟩
    · have e : ((0 + m + 1 : Nat) : Int) * big = m * big + big := by rw [Nat.zero_add, Int.natCast_add, Int.add_mul]; simp
      rw [e]
      omega
    · omega
  · intro f hf
    rcases List.mem_append.mp hf with hf | hf
    · exact be f hf
    · rw [List.mem_singleton.mp hf]
      show -(1000 * big) ≤ w ∧ w ≤ 1000 * big
      rcases wc with ⟨_, w1, w2⟩ | ⟨_, rfl⟩
      · unfold big at *; omega
      · generalize (m : Int) * big = mb at *
        unfold big at *
        omega
/-- _law_round -/
theorem round_sp (k : Nat) {i gi li n : Nat} {great : Bool} {total : Int} {h : List O} (S : Sc i gi li h) (h1 : 1 ≤ n) (h2 : n ≤ 900) (ht : -big ≤ total ∧ total ≤ big) :
    ∃ (es : List Ed) (h' : List O), callF fns (k + 3) 11 [.ref i, iW n, .d (.bl great), zW total] h = .ok (.new (.lst (es.map eW))) h' ∧ Ld i gi li h h' ∧ Ok n es ∧ es.length ≤ n ∧ (∀ p, Pot es p → 0 ≤ total) ∧ ∀ e ∈ es, -(1000 * big) ≤ e.2.2 ∧ e.2.2 ≤ 1000 * big := by
  obtain ⟨ra, ha, Ca, la, a1, a2'⟩ := ld_call (k + 1) (p := 4) (v := 4) (m := (n : Int)) rfl S (by omega) (by omega) (by omega)
  obtain ⟨s1, L1, l, row, e6, hb, rfl, lb, l1, r1, len, rl⟩ := r1_loop (k + 1) (a2 := .d (.bl great)) (a3 := zW total) la.sc (by omega) (1 + ra).toNat (show (1 + ra).toNat ≤ n by omega)
  rw [List.length_map, List.length_range, Nat.zero_add] at rl
  obtain ⟨s2, L2, es, rest, e9, e10, hc, rfl, lc, ok, el, pot, _, be⟩ := r2_loop k (a1 := iW n) (a3 := zW total) (great := great) (row := row) (total := total) (e4 := .own (.lst (l.map iW))) (e6 := e6) (e9 := .un) (e10 := .un) lb.sc (by omega) (by omega) r1 ht
  rw [List.length_map, List.length_range, Nat.zero_add] at el pot
  have el2 : (row.map iW).length = row.length := List.length_map _
  rw [← el2] at L2
  refine ⟨es, hc, ?_, (la.trans lb).trans lc, ok, by omega, fun p hp => (pot p hp).2 rfl, be⟩
  apply call_rt (B := B11) (ρ := [.w (.ref i), .w (iW n), .w (.d (.bl great)), .w (zW total), .un, .un, .un, .un, .un, .un, .un]) rfl rfl rfl
  · unfold B11
    have lr : ∀ s : Mn.S, lrngV s (iR (n : Int)) = some (.new (.lst ((List.range n).map iW))) := fun s => by
      show (if _ then _ else _) = _
      rw [if_pos (by omega)]; rfl
    apply seq_nx
    apply set_ev
    apply op1_ev
    array_get_dec
    exact lr _
    exact rfl
    array_get_dec
  · exact rfl
end HeadT

set_option linter.all false
set_option maxRecDepth 100000
set_option maxHeartbeats 1000000
namespace HeadT
open Mn BF
theorem rx_g {s : Ss} {e : Ed} {v : Nat} {a : Int} (h : g (rx s e) v = some a) (hv : e.2.1 < s.length) : (v = e.2.1 ∧ low s e = some a) ∨ g s v = some a := by
  unfold rx at h
  cases q : low s e with
  | none => rw [q] at h; exact .inr h
  | some y =>
    rw [q] at h
    simp only at h
    rw [g_set hv] at h
    by_cases e1 : v = e.2.1
    · rw [if_pos e1] at h
      exact .inl ⟨e1, h⟩
    · rw [if_neg e1] at h
      exact .inr h
/-- a fact on all sums that a step keeps -/
theorem rnd_keep {P : Nat → Ss → Prop} {n : Nat} : ∀ (l : List Ed) (m : Nat) (s : Ss), Ok n l → s.length = n → (∀ m s e, e ∈ l → s.length = n → P m s → P (m + 1) (rx s e)) → P m s → P (m + l.length) (rnd l s)
  | [], _, _, _, _, _, h => h
  | e :: l, m, s, ok, hl, st, h => by
    show P (m + (l.length + 1)) (rnd l (rx s e))
    rw [show m + (l.length + 1) = m + 1 + l.length by omega]
    exact rnd_keep l (m + 1) (rx s e) (fun f hf => ok f (List.mem_cons_of_mem _ hf)) (rx_len.trans hl) (fun m s f hf => st m s f (List.mem_cons_of_mem _ hf)) (st m s e List.mem_cons_self hl h)
theorem rn_keep {P : Nat → Ss → Prop} {n : Nat} {es : List Ed} {s : Ss} (ok : Ok n es) (hl : s.length = n) (st : ∀ m s e, e ∈ es → s.length = n → P m s → P (m + 1) (rx s e)) (h : P 0 s) : ∀ k, P (k * es.length) (rn es k s)
  | 0 => by rw [Nat.zero_mul]; exact h
  | k + 1 => by
    have := rnd_keep es (k * es.length) (rn es k s) ok ((rn_len k).trans hl) st (rn_keep ok hl st h k)
    rw [Nat.succ_mul]
    exact this
theorem rx_some {s : Ss} {e : Ed} {v : Nat} (h : g s v ≠ none) (hv : e.2.1 < s.length) : g (rx s e) v ≠ none := by
  unfold rx
  cases q : low s e with
  | none => exact h
  | some y =>
    simp only
    rw [g_set hv]
    by_cases e1 : v = e.2.1
    · rw [if_pos e1]; exact fun z => by cases z
    · rw [if_neg e1]; exact h
theorem z0_g {n v : Nat} (h : v < n) : g (z0 n) v = some 0 := by
  unfold g z0
  rw [List.getD_eq_getElem?_getD, List.getElem?_replicate, if_pos h]; rfl
theorem z0_len (n : Nat) : (z0 n).length = n := by unfold z0; exact List.length_replicate
theorem rn_all {n : Nat} {es : List Ed} (ok : Ok n es) (k : Nat) : ∀ v, v < n → g (rn es k (z0 n)) v ≠ none :=
  rn_keep (P := fun _ s => ∀ v, v < n → g s v ≠ none) ok (z0_len n) (fun m s e he hl h v hv => rx_some (h v hv) (by rw [hl]; exact (ok e he).2)) (fun v hv => by rw [z0_g hv]; exact fun z => by cases z) k
theorem fall_none (k n : Nat) (es : List Ed) (ok : Ok n es) (hl : es.length < LN) (hn : n < 1000) {p : Nat → Int} (hp : Pot es p) : ∃ h, callF fns (k + 2) 4 [.d (.int n), eT es] [] = .ok (.w (.d .non)) h := by
  rcases falling_sp k n es ok hl hn with ⟨_, h⟩ | ⟨m, _⟩
  · exact h
  · obtain ⟨t, ht⟩ := pot_settles ok (z0_len n) hp
    obtain ⟨a, b⟩ := stl_some ht
    rw [b n (by omega), a] at m
    cases m
theorem fall_some (k n : Nat) (es : List Ed) (ok : Ok n es) (hl : es.length < LN) (hn : n < 1000) (hp : ∀ p, ¬Pot es p) : ∃ h tl x L c, callF fns (k + 2) 4 [.d (.int n), eT es] [] = .ok (.w (.d (tT' tl))) h ∧ Ring n es tl x L c := by
  rcases falling_sp k n es ok hl hn with ⟨m, _⟩ | ⟨_, h⟩
  · exact absurd (settles_pot ok m (rn_all ok n)) (hp _)
  · exact h
theorem stl_pot {n : Nat} {es : List Ed} (ok : Ok n es) : (∃ t, stl es (n + 1) (z0 n) = some t) ↔ ∃ p, Pot es p := by
  refine ⟨fun ⟨t, ht⟩ => ?_, fun ⟨p, hp⟩ => pot_settles ok (z0_len n) hp⟩
  obtain ⟨a, b⟩ := stl_some ht
  have := b n (by omega)
  rw [← this] at a
  exact ⟨_, settles_pot ok a (rn_all ok n)⟩
/-- sums stay small -/
theorem rn_bd {n : Nat} {es : List Ed} {M : Int} (ok : Ok n es) (hM : ∀ e ∈ es, -M ≤ e.2.2 ∧ e.2.2 ≤ M) (k : Nat) : ∀ v a, g (rn es k (z0 n)) v = some a → -((k * es.length : Nat) * M) ≤ a ∧ a ≤ (k * es.length : Nat) * M := by
  refine rn_keep (P := fun m s => ∀ v a, g s v = some a → -((m : Int) * M) ≤ a ∧ a ≤ (m : Int) * M) ok (z0_len n) (fun m s e he hl h v a ha => ?_) (fun v a ha => ?_) k
  · have hm := hM e he
    have ee : ((m + 1 : Nat) : Int) * M = m * M + M := by rw [Int.natCast_add, Int.add_mul]; simp
    rw [ee]
    generalize hmm : (m : Int) * M = mm at *
    rcases rx_g ha (by rw [hl]; exact (ok e he).2) with ⟨_, q⟩ | q
    · obtain ⟨b, b1, b2, _⟩ := low_some q
      have := h _ _ b1
      omega
    · have := h _ _ q
      omega
  · by_cases hv : v < n
    · rw [z0_g hv] at ha
      injection ha with ha
      subst ha
      simp
    · exfalso
      unfold g z0 at ha
      rw [List.getD_eq_getElem?_getD, List.getElem?_replicate, if_neg hv] at ha
      cases ha
theorem ints_all : ∀ {n : Nat} {t : Ss}, t.length = n → (∀ v, v < n → g t v ≠ none) → ∃ ps : List Int, t = ps.map some
  | n, [], _, _ => ⟨[], rfl⟩
  | n, x :: t, hl, h => by
    have hn : t.length + 1 = n := hl
    obtain ⟨ps, e⟩ := ints_all (n := t.length) (t := t) rfl fun v hv => h (v + 1) (by omega)
    have h0 := h 0 (by omega)
    cases x with
    | none => exact absurd rfl h0
    | some a => exact ⟨a :: ps, by rw [e]; rfl⟩
/-- own least sums -/
theorem settled_ints {n : Nat} {es : List Ed} {t : Ss} {M : Int} (ok : Ok n es) (hM : ∀ e ∈ es, -M ≤ e.2.2 ∧ e.2.2 ≤ M) (ht : stl es (n + 1) (z0 n) = some t) :
    ∃ ps : List Int, t = ps.map some ∧ ps.length = n ∧ Pot es (fun v => ps.getD v 0) ∧ ∀ a ∈ ps, -((n * es.length : Nat) * M) ≤ a ∧ a ≤ (n * es.length : Nat) * M := by
  obtain ⟨m, b⟩ := stl_some ht
  have e := b n (by omega)
  have al := rn_all ok n
  have bd := rn_bd ok hM n
  rw [e] at al bd
  have tl : t.length = n := by rw [← e, rn_len, z0_len]
  obtain ⟨ps, rfl⟩ := ints_all tl al
  rw [List.length_map] at tl
  have gg : ∀ v, g (ps.map some) v = ps[v]? := fun v => by
    unfold g
    rw [List.getD_eq_getElem?_getD, List.getElem?_map]
    cases ps[v]? <;> rfl
  refine ⟨ps, rfl, tl, ?_, fun a ha => ?_⟩
  · have := settles_pot ok m al
    intro f hf
    have q := this f hf
    simp only [gg] at q
    show ps.getD f.2.1 0 ≤ ps.getD f.1 0 + f.2.2
    rw [List.getD_eq_getElem?_getD, List.getD_eq_getElem?_getD]
    exact q
  · obtain ⟨v, hv, rfl⟩ := List.getElem_of_mem ha
    exact bd v _ (by rw [gg, List.getElem?_eq_getElem hv])
theorem bg_g {n c v : Nat} (hc : c < n) : g (bg n c) v = if v = c then some 0 else none := by
  unfold bg
  rw [g_set (by rw [List.length_replicate]; exact hc)]
  split
  · rfl
  · unfold g
    rw [List.getD_eq_getElem?_getD, List.getElem?_replicate]
    split <;> rfl
theorem bg_len (n c : Nat) : (bg n c).length = n := by unfold bg; rw [List.length_set, List.length_replicate]
/-- what sums from one number tell -/
theorem from_one {n c : Nat} {es : List Ed} {t : Ss} (ok : Ok n es) (hc : c < n) (ht : stl es (n + 1) (bg n c) = some t) :
    (∀ e ∈ es, low t e = none) ∧ (∃ a, g t c = some a ∧ a ≤ 0) ∧ ∀ p, Pot es p → ∀ v a, g t v = some a → p v ≤ p c + a := by
  obtain ⟨m, b⟩ := stl_some ht
  have e := b n (by omega)
  refine ⟨(mvd_no es t m).2, ?_, fun p hp => ?_⟩
  · rw [← e]
    refine rn_keep (P := fun _ s => ∃ a, g s c = some a ∧ a ≤ 0) ok (bg_len n c) (fun m s f hf hl ⟨a, h1, h2⟩ => ?_) ⟨0, by rw [bg_g hc, if_pos rfl], Int.le_refl _⟩ n
    cases q : g (rx s f) c with
    | none => exact absurd q (rx_some (by rw [h1]; exact fun z => by cases z) (by rw [hl]; exact (ok f hf).2))
    | some y =>
      refine ⟨y, rfl, ?_⟩
      rcases rx_g q (by rw [hl]; exact (ok f hf).2) with ⟨e1, q2⟩ | q2
      · obtain ⟨_, _, _, l⟩ := low_some q2
        have := l a (by rw [← e1]; exact h1)
        omega
      · rw [h1] at q2; injection q2 with q2; omega
  · rw [← e]
    refine rn_keep (P := fun _ s => ∀ v a, g s v = some a → p v ≤ p c + a) ok (bg_len n c) (fun m s f hf hl h v a ha => ?_) (fun v a ha => ?_) n
    · rcases rx_g ha (by rw [hl]; exact (ok f hf).2) with ⟨e1, q2⟩ | q2
      · obtain ⟨b, b1, b2, _⟩ := low_some q2
        have := h _ _ b1
        have := hp f hf
        rw [e1]
        omega
      · exact h v a q2
    · rw [bg_g hc] at ha
      by_cases z : v = c
      · rw [if_pos z] at ha; injection ha with ha; subst ha; subst z; omega
      · rw [if_neg z] at ha; cases ha
theorem big_M (t : Ss) (p : Nat → Int) : ∀ es : List Ed, ∃ M : Int, ∀ e ∈ es, ∀ a, g t e.2.1 = some a → a ≤ p e.1 + M + e.2.2
  | [] => ⟨0, fun _ h => by cases h⟩
  | e :: es => by
    obtain ⟨M, hM⟩ := big_M t p es
    cases q : g t e.2.1 with
    | none => exact ⟨M, fun f hf a ha => by
        rcases List.mem_cons.mp hf with rfl | hf
        · rw [q] at ha; cases ha
        · exact hM f hf a ha⟩
    | some b => exact ⟨max M (b - p e.1 - e.2.2), fun f hf a ha => by
        rcases List.mem_cons.mp hf with rfl | hf
        · rw [q] at ha; injection ha with ha; omega
        · have := hM f hf a ha; omega⟩
theorem longer0 {n c o : Nat} {es : List Ed} {t : Ss} {b : Int} {p0 : Nat → Int} (ok : Ok n es) (hc : c < n) (ht : stl es (n + 1) (bg n c) = some t) (hp : Pot es p0) (hb : g t o = some b) : ∃ p, Pot (es ++ [(o, c, 0 - b)]) p := by
  obtain ⟨lo, ⟨a0, ga, la⟩, _⟩ := from_one ok hc ht
  obtain ⟨M, hM⟩ := big_M t p0 es
  refine ⟨fun v => match g t v with | some a => a | none => p0 v + M, fun f hf => ?_⟩
  rcases List.mem_append.mp hf with hf | hf
  · cases q1 : g t f.1 with
    | some a =>
      obtain ⟨y, y1, y2⟩ := low_none (lo f hf) q1
      simp only [q1, y1]
      exact y2
    | none =>
      cases q2 : g t f.2.1 with
      | some a =>
        simp only [q1, q2]
        exact hM f hf a q2
      | none =>
        simp only [q1, q2]
        have := hp f hf
        omega
  · rw [List.mem_singleton.mp hf]
    simp only [ga, hb]
    omega
theorem longer1 {n c o : Nat} {es : List Ed} {t : Ss} {b : Int} (ok : Ok n es) (hc : c < n) (ht : stl es (n + 1) (bg n c) = some t) (hb : g t o = some b) (p : Nat → Int) : ¬Pot (es ++ [(o, c, -1 - b)]) p := fun hp => by
  have h1 := (from_one ok hc ht).2.2 p (fun e he => hp e (List.mem_append_left _ he)) o b hb
  have h2 : p c ≤ p o + (-1 - b) := hp (o, c, -1 - b) (List.mem_append_right _ (List.mem_singleton.mpr rfl))
  omega
end HeadT

set_option linter.all false
set_option maxRecDepth 100000
set_option maxHeartbeats 2000000
namespace HeadT
open Mn BF
-- MAC
local macro_rules
  | `(tactic| sizeOf_list_dec) => `(tactic| first | exact rfl | with_reducible assumption | exact decide_eq_true (by omega) | exact decide_eq_false (by omega) | (rw [Bool.not_eq_true']; exact decide_eq_false (by omega)) | (rw [Bool.not_eq_false']; exact decide_eq_true (by omega)) | (simp (config := { decide := true }) only [*, decide_true, decide_false, Bool.not_true, Bool.not_false]; done))
local macro_rules
  | `(tactic| array_mem_dec) => `(tactic| first
    | ((with_reducible apply mul_v); omega)
    | ((with_reducible apply mul_one); omega)
    | ((with_reducible apply mul_tup); omega)
    | with_reducible exact tup_map
    | with_reducible exact eqV_int
    | with_reducible exact neV_int
    | ((with_reducible apply ins_slot); exact rfl; ((show (_ : Nat) < 16777216); (try simp only [List.length_map, List.length_append, List.length_cons, List.length_nil]); omega); omega; omega)
    | ((with_reducible apply str_v); assumption)
    | ((with_reducible apply isi_ref); assumption)
    | ((with_reducible apply add_tup); (try simp only [List.length_map, List.length_append, List.length_replicate, List.length_cons, List.length_nil]); omega)
    | ((with_reducible apply mod_v); omega)
    | ((with_reducible apply div_v) <;> omega)
    | ((with_reducible apply app_slot); exact rfl; (show (_ : Nat) < 16777216); (try simp only [List.length_map, List.length_append, List.length_cons, List.length_nil]); omega)
    | ((with_reducible apply pop_slot); exact rfl; omega; omega; first | assumption | exact rfl)
    | ((with_reducible apply putz_own); exact rfl; omega; (try simp only [List.length_set, List.length_map, List.length_append, List.length_replicate, List.length_cons, List.length_nil]); omega)
    | ((with_reducible apply putz_ref); assumption; omega; (try simp only [List.length_set, List.length_map, List.length_append, List.length_replicate, List.length_cons, List.length_nil]); omega)
    | ((with_reducible apply ixz_own); exact rfl; omega; first | assumption | exact rfl)
    | ((with_reducible apply ixz_tup); omega; first | assumption | exact rfl)
    | ((with_reducible apply ixz_ref); assumption; omega; first | assumption | exact rfl)
    | exact rfl
    | assumption)
local macro_rules
  | `(tactic| array_get_dec) => `(tactic| first
    | with_reducible exact kE_ev
    | ((with_reducible apply vE_w); exact rfl)
    | ((with_reducible apply vE_o); exact rfl)
    | ((with_reducible apply op2_ev); array_get_dec; array_get_dec; array_mem_dec)
    | ((with_reducible apply op1_ev); array_get_dec; array_mem_dec)
    | with_reducible exact asN_ev
    | ((with_reducible apply asC_ev); array_get_dec; array_get_dec)
    | ((with_reducible apply tupD_ev); array_get_dec; exact rfl; exact rfl; (show (_ : Nat) ≤ 16777216); simp)
    | ((with_reducible apply tup_ev); array_get_dec; exact rfl; (show (_ : Nat) ≤ 16777216); simp)
    | ((with_reducible apply lst_ev); array_get_dec; exact rfl; (show (_ : Nat) ≤ 16777216); simp)
    | ((with_reducible apply callH_ev); array_get_dec; exact rfl; first | (apply callV_p; exact rfl; assumption; exact rfl) | (apply callV_q; exact rfl; assumption))
    | ((with_reducible apply callE_q); array_get_dec; exact rfl; assumption)
    | ((with_reducible apply meth_ev); array_get_dec; (first | exact rfl | exact isl_ref (by assumption)); array_get_dec; array_mem_dec)
    | ((with_reducible apply tst_eq); array_get_dec; array_mem_dec; exact rfl)
    | ((with_reducible apply notT_eq); array_get_dec; exact rfl)
    | ((with_reducible apply and_c); array_get_dec; first | (left; refine ⟨?_, ?_⟩; sizeOf_list_dec; array_get_dec) | (right; refine ⟨?_, ?_⟩; sizeOf_list_dec; exact rfl))
    | ((with_reducible apply or_c); array_get_dec; first | (left; refine ⟨?_, ?_⟩; sizeOf_list_dec; exact rfl) | (right; refine ⟨?_, ?_⟩; sizeOf_list_dec; array_get_dec))
    | ((with_reducible apply andE_c); array_get_dec; array_mem_dec; first | (left; refine ⟨?_, ?_⟩; sizeOf_list_dec; array_get_dec) | (right; refine ⟨?_, ?_⟩; sizeOf_list_dec; exact rfl))
    | ((with_reducible apply orE_c); array_get_dec; array_mem_dec; first | (left; refine ⟨?_, ?_⟩; sizeOf_list_dec; exact rfl) | (right; refine ⟨?_, ?_⟩; sizeOf_list_dec; array_get_dec))
    | ((with_reducible apply chE_t); array_get_dec; array_get_dec; array_mem_dec; array_get_dec; array_mem_dec)
    | ((with_reducible apply chE_f); array_get_dec; array_get_dec; array_mem_dec)
    | ((with_reducible apply ite_c); array_get_dec; first | (left; refine ⟨?_, ?_⟩; sizeOf_list_dec; array_get_dec) | (right; refine ⟨?_, ?_⟩; sizeOf_list_dec; array_get_dec))
    | ((with_reducible apply lc_ev); array_get_dec; assumption)
    | ((with_reducible apply sl_ev); array_get_dec; array_get_dec; array_get_dec; array_mem_dec)
    | with_reducible exact no_ev
    | ((with_reducible apply some_ev); array_get_dec)
    | ((with_reducible apply itR1_z); array_get_dec; omega; omega)
    | ((with_reducible apply itE_ev); array_get_dec; exact rfl)
    | with_reducible exact nx_ev
    | ((with_reducible apply seq_nx); array_get_dec; array_get_dec)
    | ((with_reducible apply seq_rt); array_get_dec)
    | ((with_reducible apply if_c); array_get_dec; first | (left; refine ⟨?_, ?_⟩; sizeOf_list_dec; array_get_dec) | (right; refine ⟨?_, ?_⟩; sizeOf_list_dec; array_get_dec))
    | ((with_reducible apply ret_ev); array_get_dec)
    | ((with_reducible apply set_ev); array_get_dec; exact rfl)
    | ((with_reducible apply expr_ev); array_get_dec)
    | ((with_reducible apply unp_ev); array_get_dec; exact rfl)
    | ((with_reducible apply par_ev); array_get_dec; exact rfl; exact rfl; exact rfl)
    | ((with_reducible apply for_ev); array_get_dec; assumption)
    | ((with_reducible apply put_ev); array_get_dec; array_get_dec; array_get_dec; exact rfl; array_mem_dec))
-- ENDMAC
abbrev D17 (call : Call) : Mn.St := (seqS (parS 14 15 (asC (callH call 8 (asC (vE 0) (asC (kE (.int 6)) (asC (vE 1) (asN))))) (asC (callH call 8 (asC (vE 0) (asC (kE (.int 7)) (asC (vE 1) (asN))))) (asN)))) (seqS (setS 9 (op2 mulV (lstE (asC (kE .non) (asN))) (vE 1))) (seqS (putS (vE 9) (vE 14) (kE (.int 0))) (seqS (setS 16 (op2 ixV (callH call 12 (asC (vE 1) (asC (vE 2) (asC (vE 9) (asN))))) (vE 15))) (seqS (ifS (tst (op2 isV (vE 16) (kE .non))) (retS (kE (.bl true))) (nxS)) (seqS (forS (itE (tupE (asC (tupE (asC (kE (.int 0)) (asC (kE (.bl false)) (asN)))) (asC (tupE (asC (op1 negV (kE (.int 1))) (asC (kE (.bl true)) (asN)))) (asN))))) (tgT [tgV 17, tgV 18]) (seqS (setS 19 (op2 addV (vE 2) (tupE (asC (tupE (asC (vE 15) (asC (vE 14) (asC (op2 subV (vE 17) (vE 16)) (asN))))) (asN))))) (seqS (setS 5 (callH call 4 (asC (vE 1) (asC (vE 19) (asN))))) (ifS (orT (tst (op2 neV (vE 18) (op2 isntV (vE 5) (kE .non)))) (andT (tst (vE 18)) (notT (tst (callH call 13 (asC (vE 19) (asC (vE 5) (asN)))))))) (retS (kE (.bl false))) (nxS))))) (retS (kE (.bl true)))))))))
abbrev C17 (call : Call) : Mn.St := (seqS (setS 10 (callH call 8 (asC (vE 0) (asC (kE (.int 5)) (asC (vE 1) (asN)))))) (seqS (setS 11 (lstE (asC (op1 tupleV (lcE (itE (vE 4)) (tgV 14) (yesT) (op2 addV (vE 14) (op2 powV (kE (.int 10)) (kE (.int 50)))) [14])) (asC (op1 tupleV (lcE (itE (vE 4)) (tgV 14) (yesT) (op2 subV (kE (.int 0)) (vE 14)) [14])) (asC (op2 mulV (tupE (asC (kE (.int 0)) (asN))) (vE 1)) (asC (op1 listV (vE 4)) (asC (slE (vE 4) (noO) (someO (op1 negV (kE (.int 1))))) (asC (op2 addV (vE 4) (tupE (asC (kE (.int 0)) (asN)))) (asC (kE .non) (asC (kE (.int 7)) (asC (kE (.str [48])) (asC (op1 tupleV (lcE (itE (vE 4)) (tgV 14) (yesT) (op2 eqV (vE 14) (kE (.int 0))) [14])) (asC (tupE (asC (vE 4) (asN))) (asN)))))))))))))) (seqS (forS (itE (tupE (asC (op2 addV (op2 ixV (vE 4) (vE 10)) (kE (.int 1))) (asC (op2 subV (op2 ixV (vE 4) (vE 10)) (kE (.int 1))) (asC (op2 subV (op2 ixV (vE 4) (vE 10)) (op2 powV (kE (.int 10)) (kE (.int 45)))) (asC (kE .non) (asC (op1 strV (op2 ixV (vE 4) (vE 10))) (asC (tupE (asC (op2 ixV (vE 4) (vE 10)) (asN))) (asC (kE (.bl true)) (asC (kE (.bl false)) (asN))))))))))) (tgV 12) (exprS (meth appendV (vE 11) (asC (op2 addV (op2 addV (slE (vE 4) (noO) (someO (vE 10))) (tupE (asC (vE 12) (asN)))) (slE (vE 4) (someO (op2 addV (vE 10) (kE (.int 1)))) (noO))) (asN))))) (seqS (forS (itE (vE 11)) (tgV 13) (ifS (notT (tst (callH call 16 (asC (callH call 6 (asC (vE 1) (asC (vE 2) (asC (vE 13) (asN))))) (asC (callH call 14 (asC (vE 1) (asC (vE 2) (asC (vE 13) (asN))))) (asN)))))) (retS (kE (.bl false))) (nxS))) (seqS (parS 14 15 (asC (callH call 8 (asC (vE 0) (asC (kE (.int 6)) (asC (vE 1) (asN))))) (asC (callH call 8 (asC (vE 0) (asC (kE (.int 7)) (asC (vE 1) (asN))))) (asN)))) (seqS (setS 9 (op2 mulV (lstE (asC (kE .non) (asN))) (vE 1))) (seqS (putS (vE 9) (vE 14) (kE (.int 0))) (seqS (setS 16 (op2 ixV (callH call 12 (asC (vE 1) (asC (vE 2) (asC (vE 9) (asN))))) (vE 15))) (seqS (ifS (tst (op2 isV (vE 16) (kE .non))) (retS (kE (.bl true))) (nxS)) (seqS (forS (itE (tupE (asC (tupE (asC (kE (.int 0)) (asC (kE (.bl false)) (asN)))) (asC (tupE (asC (op1 negV (kE (.int 1))) (asC (kE (.bl true)) (asN)))) (asN))))) (tgT [tgV 17, tgV 18]) (seqS (setS 19 (op2 addV (vE 2) (tupE (asC (tupE (asC (vE 15) (asC (vE 14) (asC (op2 subV (vE 17) (vE 16)) (asN))))) (asN))))) (seqS (setS 5 (callH call 4 (asC (vE 1) (asC (vE 19) (asN))))) (ifS (orT (tst (op2 neV (vE 18) (op2 isntV (vE 5) (kE .non)))) (andT (tst (vE 18)) (notT (tst (callH call 13 (asC (vE 19) (asC (vE 5) (asN)))))))) (retS (kE (.bl false))) (nxS))))) (retS (kE (.bl true)))))))))))))
abbrev A17 (call : Call) : Mn.St := (seqS (setS 7 (lstE (asC (kE (.int 0)) (asC (op2 subV (vE 1) (kE (.int 1))) (asC (callH call 8 (asC (vE 0) (asC (kE (.int 4)) (asC (vE 1) (asN))))) (asN)))))) (seqS (forS (itE (vE 7)) (tgV 8) (seqS (setS 9 (op2 mulV (lstE (asC (kE .non) (asN))) (vE 1))) (seqS (putS (vE 9) (vE 8) (kE (.int 0))) (ifS (notT (tst (callH call 15 (asC (callH call 5 (asC (vE 1) (asC (vE 2) (asC (vE 8) (asN))))) (asC (callH call 12 (asC (vE 1) (asC (vE 2) (asC (vE 9) (asN))))) (asN)))))) (retS (kE (.bl false))) (nxS))))) (seqS (setS 10 (callH call 8 (asC (vE 0) (asC (kE (.int 5)) (asC (vE 1) (asN)))))) (seqS (setS 11 (lstE (asC (op1 tupleV (lcE (itE (vE 4)) (tgV 14) (yesT) (op2 addV (vE 14) (op2 powV (kE (.int 10)) (kE (.int 50)))) [14])) (asC (op1 tupleV (lcE (itE (vE 4)) (tgV 14) (yesT) (op2 subV (kE (.int 0)) (vE 14)) [14])) (asC (op2 mulV (tupE (asC (kE (.int 0)) (asN))) (vE 1)) (asC (op1 listV (vE 4)) (asC (slE (vE 4) (noO) (someO (op1 negV (kE (.int 1))))) (asC (op2 addV (vE 4) (tupE (asC (kE (.int 0)) (asN)))) (asC (kE .non) (asC (kE (.int 7)) (asC (kE (.str [48])) (asC (op1 tupleV (lcE (itE (vE 4)) (tgV 14) (yesT) (op2 eqV (vE 14) (kE (.int 0))) [14])) (asC (tupE (asC (vE 4) (asN))) (asN)))))))))))))) (seqS (forS (itE (tupE (asC (op2 addV (op2 ixV (vE 4) (vE 10)) (kE (.int 1))) (asC (op2 subV (op2 ixV (vE 4) (vE 10)) (kE (.int 1))) (asC (op2 subV (op2 ixV (vE 4) (vE 10)) (op2 powV (kE (.int 10)) (kE (.int 45)))) (asC (kE .non) (asC (op1 strV (op2 ixV (vE 4) (vE 10))) (asC (tupE (asC (op2 ixV (vE 4) (vE 10)) (asN))) (asC (kE (.bl true)) (asC (kE (.bl false)) (asN))))))))))) (tgV 12) (exprS (meth appendV (vE 11) (asC (op2 addV (op2 addV (slE (vE 4) (noO) (someO (vE 10))) (tupE (asC (vE 12) (asN)))) (slE (vE 4) (someO (op2 addV (vE 10) (kE (.int 1)))) (noO))) (asN))))) (seqS (forS (itE (vE 11)) (tgV 13) (ifS (notT (tst (callH call 16 (asC (callH call 6 (asC (vE 1) (asC (vE 2) (asC (vE 13) (asN))))) (asC (callH call 14 (asC (vE 1) (asC (vE 2) (asC (vE 13) (asN))))) (asN)))))) (retS (kE (.bl false))) (nxS))) (seqS (parS 14 15 (asC (callH call 8 (asC (vE 0) (asC (kE (.int 6)) (asC (vE 1) (asN))))) (asC (callH call 8 (asC (vE 0) (asC (kE (.int 7)) (asC (vE 1) (asN))))) (asN)))) (seqS (setS 9 (op2 mulV (lstE (asC (kE .non) (asN))) (vE 1))) (seqS (putS (vE 9) (vE 14) (kE (.int 0))) (seqS (setS 16 (op2 ixV (callH call 12 (asC (vE 1) (asC (vE 2) (asC (vE 9) (asN))))) (vE 15))) (seqS (ifS (tst (op2 isV (vE 16) (kE .non))) (retS (kE (.bl true))) (nxS)) (seqS (forS (itE (tupE (asC (tupE (asC (kE (.int 0)) (asC (kE (.bl false)) (asN)))) (asC (tupE (asC (op1 negV (kE (.int 1))) (asC (kE (.bl true)) (asN)))) (asN))))) (tgT [tgV 17, tgV 18]) (seqS (setS 19 (op2 addV (vE 2) (tupE (asC (tupE (asC (vE 15) (asC (vE 14) (asC (op2 subV (vE 17) (vE 16)) (asN))))) (asN))))) (seqS (setS 5 (callH call 4 (asC (vE 1) (asC (vE 19) (asN))))) (ifS (orT (tst (op2 neV (vE 18) (op2 isntV (vE 5) (kE .non)))) (andT (tst (vE 18)) (notT (tst (callH call 13 (asC (vE 19) (asC (vE 5) (asN)))))))) (retS (kE (.bl false))) (nxS))))) (retS (kE (.bl true)))))))))))))))
abbrev D17_1 (call : Call) : Mn.St := (seqS (setS 19 (op2 addV (vE 2) (tupE (asC (tupE (asC (vE 15) (asC (vE 14) (asC (op2 subV (vE 17) (vE 16)) (asN))))) (asN))))) (seqS (setS 5 (callH call 4 (asC (vE 1) (asC (vE 19) (asN))))) (ifS (orT (tst (op2 neV (vE 18) (op2 isntV (vE 5) (kE .non)))) (andT (tst (vE 18)) (notT (tst (callH call 13 (asC (vE 19) (asC (vE 5) (asN)))))))) (retS (kE (.bl false))) (nxS))))
abbrev C17_2 (call : Call) : Mn.St := (ifS (notT (tst (callH call 16 (asC (callH call 6 (asC (vE 1) (asC (vE 2) (asC (vE 13) (asN))))) (asC (callH call 14 (asC (vE 1) (asC (vE 2) (asC (vE 13) (asN))))) (asN)))))) (retS (kE (.bl false))) (nxS))
abbrev C17_1 (call : Call) : Mn.St := (exprS (meth appendV (vE 11) (asC (op2 addV (op2 addV (slE (vE 4) (noO) (someO (vE 10))) (tupE (asC (vE 12) (asN)))) (slE (vE 4) (someO (op2 addV (vE 10) (kE (.int 1)))) (noO))) (asN))))
abbrev A17_1 (call : Call) : Mn.St := (seqS (setS 9 (op2 mulV (lstE (asC (kE .non) (asN))) (vE 1))) (seqS (putS (vE 9) (vE 8) (kE (.int 0))) (ifS (notT (tst (callH call 15 (asC (callH call 5 (asC (vE 1) (asC (vE 2) (asC (vE 8) (asN))))) (asC (callH call 12 (asC (vE 1) (asC (vE 2) (asC (vE 9) (asN))))) (asN)))))) (retS (kE (.bl false))) (nxS))))
/-- the scale stands, the heap has grown -/
structure Gw (i gi li : Nat) (h h' : List O) : Prop where
  sc : Sc i gi li h'
  len : h.length ≤ h'.length
  oth : ∀ j, j < h.length → j ≠ i → j ≠ gi → j ≠ li → h'[j]? = h[j]?
theorem Ld.gw {i gi li : Nat} {h h' : List O} (l : Ld i gi li h h') : Gw i gi li h h' := ⟨l.sc, Nat.le_of_eq l.len.symm, fun j _ => l.oth j⟩
theorem Gw.trans {i gi li : Nat} {h h1 h2 : List O} (a : Gw i gi li h h1) (b : Gw i gi li h1 h2) : Gw i gi li h h2 :=
  ⟨b.sc, Nat.le_trans a.len b.len, fun j j0 j1 j2 j3 => (b.oth j (Nat.lt_of_lt_of_le j0 a.len) j1 j2 j3).trans (a.oth j j0 j1 j2 j3)⟩
theorem Gw.refl {i gi li : Nat} {h : List O} (S : Sc i gi li h) : Gw i gi li h h := ⟨S, Nat.le_refl _, fun _ _ _ _ _ => rfl⟩
theorem Sc.app {i gi li : Nat} {h : List O} (S : Sc i gi li h) (l : List O) : Gw i gi li h (h ++ l) := by
  obtain ⟨great, mixed, cnt, leans, S⟩ := S
  have k : ∀ j o, h[j]? = some o → (h ++ l)[j]? = some o := fun j o e => by rw [List.getElem?_append_left (List.getElem?_eq_some_iff.mp e).1]; exact e
  exact ⟨⟨great, mixed, cnt, leans, k _ _ S.at_, k _ _ S.g, k _ _ S.l, S.n1, S.n2, S.n3, S.len, S.few⟩, by simp, fun j j0 _ _ _ => List.getElem?_append_left j0⟩
abbrev S17 (i n ci : Nat) (es : List Ed) (e4 e5 e6 e7 e8 e9 e10 e11 e12 e13 e14 e15 e16 e17 e18 e19 e20 : E0) (h : List O) : Mn.S :=
  ⟨[.w (.ref i), .w (iW n), .w (eT es), .w (.ref ci), e4, e5, e6, e7, e8, e9, e10, e11, e12, e13, e14, e15, e16, e17, e18, e19, e20], h⟩
abbrev pT (ps : List Int) : W := .d (.tup (ps.map D.int))
theorem bg_map (n c : Nat) : (bg n c).map oD = (List.replicate n (.d .non)).set c (.d (.int 0)) := by
  unfold bg
  rw [List.map_set, List.map_replicate]; rfl
/-- one turn of the last loop: no round -/
theorem d1_no (k : Nat) {i n ci : Nat} {es : List Ed} {o c : Nat} {b : Int} {p : Nat → Int} (ok : Ok n (es ++ [(o, c, 0 - b)])) (hl : es.length < 4000) (hn : n < 1000) (hp : Pot (es ++ [(o, c, 0 - b)]) p) {e4 e5 e6 e7 e8 e9 e10 e11 e12 e13 e19 e20 : E0} {h : List O} :
    D17_1 (callF fns (k + 2)) (S17 i n ci es e4 e5 e6 e7 e8 e9 e10 e11 e12 e13 (.w (iW c)) (.w (iW o)) (.w (zW b)) (.w (zW 0)) (.w (.d (.bl false))) e19 e20 h) = .nx (S17 i n ci es e4 (.w (.d .non)) e6 e7 e8 e9 e10 e11 e12 e13 (.w (iW c)) (.w (iW o)) (.w (zW b)) (.w (zW 0)) (.w (.d (.bl false))) (.w (eT (es ++ [(o, c, 0 - b)]))) e20 h) := by
  obtain ⟨h1, C⟩ := fall_none k n _ ok (by rw [List.length_append]; show es.length + 1 < 16777216; omega) hn hp
  have ad : ∀ s : Mn.S, addV s (.w (eT es)) (.w (.d (.tup [.tup [.int o, .int c, .int (0 - b)]]))) = some (.w (eT (es ++ [(o, c, 0 - b)]))) := fun s => by
    show (if (es.map eD).length + 1 ≤ LN then _ else _) = _
    rw [if_pos (by rw [List.length_map]; show es.length + 1 ≤ 16777216; omega)]
    unfold eT
    rw [List.map_append]; rfl
  generalize callF fns (k + 2) = call at *
  apply nx_as
  · apply seq_nx
    · apply set_ev
      · apply op2_ev
        · array_get_dec
        · array_get_dec
        · exact ad _
      · exact rfl
    · array_get_dec
  · rfl
theorem d1_yes (k : Nat) {i n ci : Nat} {es : List Ed} {o c : Nat} {b : Int} (ok : Ok n (es ++ [(o, c, -1 - b)])) (hl : es.length < 3900) (hn : n < 1000) (hp : ∀ p, ¬Pot (es ++ [(o, c, -1 - b)]) p) {e4 e5 e6 e7 e8 e9 e10 e11 e12 e13 e19 e20 : E0} {h : List O} :
    ∃ s', D17_1 (callF fns (k + 2)) (S17 i n ci es e4 e5 e6 e7 e8 e9 e10 e11 e12 e13 (.w (iW c)) (.w (iW o)) (.w (zW b)) (.w (zW (-1))) (.w (.d (.bl true))) e19 e20 h) = .nx s' ∧ s'.h = h := by
  obtain ⟨h1, tl, x, L, c', C, R⟩ := fall_some k n _ ok (by rw [List.length_append]; show es.length + 1 < 16777216; omega) hn hp
  obtain ⟨h2, C2⟩ := isfall_sp (k + 1) R (by rw [List.length_append]; show es.length + 1 < 4000; omega)
  have ad : ∀ s : Mn.S, addV s (.w (eT es)) (.w (.d (.tup [.tup [.int o, .int c, .int (-1 - b)]]))) = some (.w (eT (es ++ [(o, c, -1 - b)]))) := fun s => by
    show (if (es.map eD).length + 1 ≤ LN then _ else _) = _
    rw [if_pos (by rw [List.length_map]; show es.length + 1 ≤ 16777216; omega)]
    unfold eT
    rw [List.map_append]; rfl
  generalize callF fns (k + 2) = call at *
  apply ex1
  · apply seq_nx
    · apply set_ev
      · apply op2_ev
        · array_get_dec
        · array_get_dec
        · exact ad _
      · exact rfl
    · array_get_dec
  · rfl
theorem oD_get {n : Nat} {t : Ss} {o : Nat} (h : o < t.length) : (t.map oDd)[o]? = some (oDd (g t o)) := by
  rw [List.getElem?_map]
  unfold g
  rw [List.getD_eq_getElem?_getD, List.getElem?_eq_getElem h]; rfl
theorem D17_ev (k : Nat) {i gi li n ci : Nat} {es : List Ed} {p0 : Nat → Int} (ok : Ok n es) (hl : es.length < 3900) (h1 : 1 ≤ n) (hn : n ≤ 900) (hp : Pot es p0) {e4 e5 e6 e7 e8 e9 e10 e11 e12 e13 e14 e15 e16 e17 e18 e19 e20 : E0} {h : List O} (S : Sc i gi li h) :
    ∃ s', D17 (callF fns (k + 2)) (S17 i n ci es e4 e5 e6 e7 e8 e9 e10 e11 e12 e13 e14 e15 e16 e17 e18 e19 e20 h) = .rt (bR true) s' ∧ Gw i gi li h s'.h := by
  obtain ⟨ra, ha, Ca, la, a1, a2⟩ := ld_call (k + 1) (p := 6) (v := 6) (m := (n : Int)) rfl S (by omega) (by omega) (by omega)
  obtain ⟨rb, hb, Cb, lb, b1, b2⟩ := ld_call (k + 1) (p := 7) (v := 7) (m := (n : Int)) rfl la.sc (by omega) (by omega) (by omega)
  obtain ⟨c, rfl⟩ := Int.eq_ofNat_of_zero_le a1
  obtain ⟨o, rfl⟩ := Int.eq_ofNat_of_zero_le b1
  obtain ⟨t, ht⟩ := pot_settles (s := bg n c) ok (bg_len n c) hp
  have C := settled_sp (k + 1) n hb.length es (bg n c) (hb ++ [.lst ((List.replicate n (.d .non)).set c (.d (.int 0)))]) (by rw [bg_map]; simp) (by rw [bg_len]; exact ok) (by omega)
  rw [ht] at C
  have C : callF fns (k + 2) 12 [.d (.int n), eT es, .ref hb.length] (hb ++ [.lst ((List.replicate n (.d .non)).set c (.d (.int 0)))]) = .ok (.w (.d (.tup (t.map oDd)))) (hb ++ [.lst ((List.replicate n (.d .non)).set c (.d (.int 0)))]) := C
  have tl : t.length = n := by
    rw [← (stl_some ht).2 n (by omega), rn_len, bg_len]
  have xo := oD_get (n := n) (t := t) (o := o) (by omega)
  have gw := (la.trans lb).gw.trans (Sc.app lb.sc [.lst ((List.replicate n (.d .non)).set c (.d (.int 0)))])
  have ml : ∀ s : Mn.S, mulV s (.new (.lst [.d .non])) (iR (n : Int)) = some (.new (.lst (List.replicate n (.d .non)))) := fun s => mul_one (by omega)
  have ok2 : ∀ w : Int, Ok n (es ++ [(o, c, w)]) := fun w e he => by
    rcases List.mem_append.mp he with he | he
    · exact ok e he
    · rw [List.mem_singleton.mp he]; exact ⟨by show o < n; omega, by show c < n; omega⟩
  cases q : g t o with
  | none =>
    rw [q] at xo
    have xo : (t.map oDd)[o]? = some .non := xo
    generalize callF fns (k + 2) = call at *
    apply ex1
    · array_get_dec
    · exact gw
  | some b =>
    rw [q] at xo
    have xo : (t.map oDd)[o]? = some (.int b) := xo
    obtain ⟨p1, hp1⟩ := longer0 (o := o) ok (show c < n by omega) ht hp q
    have hp2 := longer1 (o := o) ok (show c < n by omega) ht q
    have T1 := d1_no k (i := i) (ci := ci) (ok2 _) (by omega) (by omega) hp1 (e4 := e4) (e5 := e5) (e6 := e6) (e7 := e7) (e8 := e8) (e9 := .w (.ref hb.length)) (e10 := e10) (e11 := e11) (e12 := e12) (e13 := e13) (e19 := e19) (e20 := e20) (h := hb ++ [.lst ((List.replicate n (.d .non)).set c (.d (.int 0)))])
    obtain ⟨s', T2, hs⟩ := d1_yes k (i := i) (ci := ci) (ok2 _) (by omega) (by omega) hp2 (e4 := e4) (e5 := .w (.d .non)) (e6 := e6) (e7 := e7) (e8 := e8) (e9 := .w (.ref hb.length)) (e10 := e10) (e11 := e11) (e12 := e12) (e13 := e13) (e19 := .w (eT (es ++ [(o, c, 0 - b)]))) (e20 := e20) (h := hb ++ [.lst ((List.replicate n (.d .non)).set c (.d (.int 0)))])
    have L : forL none (tgT [tgV 17, tgV 18]) (D17_1 (callF fns (k + 2))) [.d (.tup [.int 0, .bl false]), .d (.tup [.int (-1), .bl true])] (S17 i n ci es e4 e5 e6 e7 e8 (.w (.ref hb.length)) e10 e11 e12 e13 (.w (iW c)) (.w (iW o)) (.w (zW b)) e17 e18 e19 e20 (hb ++ [.lst ((List.replicate n (.d .non)).set c (.d (.int 0)))])) = .nx s' :=
      forL_cons rfl rfl T1 (forL_cons rfl rfl T2 (forL_nil rfl))
    rw [← hs] at gw
    clear T1 T2 hs
    generalize callF fns (k + 2) = call at *
    apply ex1
    · array_get_dec
    · exact gw
end HeadT

set_option linter.all false
set_option maxRecDepth 100000
set_option maxHeartbeats 2000000
namespace HeadT
open Mn BF
-- MAC
local macro_rules
  | `(tactic| sizeOf_list_dec) => `(tactic| first | exact rfl | with_reducible assumption | exact decide_eq_true (by omega) | exact decide_eq_false (by omega) | (rw [Bool.not_eq_true']; exact decide_eq_false (by omega)) | (rw [Bool.not_eq_false']; exact decide_eq_true (by omega)) | (simp (config := { decide := true }) only [*, decide_true, decide_false, Bool.not_true, Bool.not_false]; done))
local macro_rules
  | `(tactic| array_mem_dec) => `(tactic| first
    | ((with_reducible apply mul_v); omega)
    | ((with_reducible apply mul_one); omega)
    | ((with_reducible apply mul_tup); omega)
    | with_reducible exact tup_map
    | with_reducible exact eqV_int
    | with_reducible exact neV_int
    | ((with_reducible apply ins_slot); exact rfl; ((show (_ : Nat) < 16777216); (try simp only [List.length_map, List.length_append, List.length_cons, List.length_nil]); omega); omega; omega)
    | ((with_reducible apply str_v); assumption)
    | ((with_reducible apply isi_ref); assumption)
    | ((with_reducible apply add_tup); (try simp only [List.length_map, List.length_append, List.length_replicate, List.length_cons, List.length_nil]); omega)
    | ((with_reducible apply mod_v); omega)
    | ((with_reducible apply div_v) <;> omega)
    | ((with_reducible apply app_slot); exact rfl; (show (_ : Nat) < 16777216); (try simp only [List.length_map, List.length_append, List.length_cons, List.length_nil]); omega)
    | ((with_reducible apply pop_slot); exact rfl; omega; omega; first | assumption | exact rfl)
    | ((with_reducible apply putz_own); exact rfl; omega; (try simp only [List.length_set, List.length_map, List.length_append, List.length_replicate, List.length_cons, List.length_nil]); omega)
    | ((with_reducible apply putz_ref); assumption; omega; (try simp only [List.length_set, List.length_map, List.length_append, List.length_replicate, List.length_cons, List.length_nil]); omega)
    | ((with_reducible apply ixz_own); exact rfl; omega; first | assumption | exact rfl)
    | ((with_reducible apply ixz_tup); omega; first | assumption | exact rfl)
    | ((with_reducible apply ixz_ref); assumption; omega; first | assumption | exact rfl)
    | exact rfl
    | assumption)
local macro_rules
  | `(tactic| array_get_dec) => `(tactic| first
    | with_reducible exact kE_ev
    | ((with_reducible apply vE_w); exact rfl)
    | ((with_reducible apply vE_o); exact rfl)
    | ((with_reducible apply op2_ev); array_get_dec; array_get_dec; array_mem_dec)
    | ((with_reducible apply op1_ev); array_get_dec; array_mem_dec)
    | with_reducible exact asN_ev
    | ((with_reducible apply asC_ev); array_get_dec; array_get_dec)
    | ((with_reducible apply tupD_ev); array_get_dec; exact rfl; exact rfl; (show (_ : Nat) ≤ 16777216); simp)
    | ((with_reducible apply tup_ev); array_get_dec; exact rfl; (show (_ : Nat) ≤ 16777216); simp)
    | ((with_reducible apply lst_ev); array_get_dec; exact rfl; (show (_ : Nat) ≤ 16777216); simp)
    | ((with_reducible apply callH_ev); array_get_dec; exact rfl; first | (apply callV_p; exact rfl; assumption; exact rfl) | (apply callV_q; exact rfl; assumption))
    | ((with_reducible apply callE_q); array_get_dec; exact rfl; assumption)
    | ((with_reducible apply meth_ev); array_get_dec; (first | exact rfl | exact isl_ref (by assumption)); array_get_dec; array_mem_dec)
    | ((with_reducible apply tst_eq); array_get_dec; array_mem_dec; exact rfl)
    | ((with_reducible apply notT_eq); array_get_dec; exact rfl)
    | ((with_reducible apply and_c); array_get_dec; first | (left; refine ⟨?_, ?_⟩; sizeOf_list_dec; array_get_dec) | (right; refine ⟨?_, ?_⟩; sizeOf_list_dec; exact rfl))
    | ((with_reducible apply or_c); array_get_dec; first | (left; refine ⟨?_, ?_⟩; sizeOf_list_dec; exact rfl) | (right; refine ⟨?_, ?_⟩; sizeOf_list_dec; array_get_dec))
    | ((with_reducible apply andE_c); array_get_dec; array_mem_dec; first | (left; refine ⟨?_, ?_⟩; sizeOf_list_dec; array_get_dec) | (right; refine ⟨?_, ?_⟩; sizeOf_list_dec; exact rfl))
    | ((with_reducible apply orE_c); array_get_dec; array_mem_dec; first | (left; refine ⟨?_, ?_⟩; sizeOf_list_dec; exact rfl) | (right; refine ⟨?_, ?_⟩; sizeOf_list_dec; array_get_dec))
    | ((with_reducible apply chE_t); array_get_dec; array_get_dec; array_mem_dec; array_get_dec; array_mem_dec)
    | ((with_reducible apply chE_f); array_get_dec; array_get_dec; array_mem_dec)
    | ((with_reducible apply ite_c); array_get_dec; first | (left; refine ⟨?_, ?_⟩; sizeOf_list_dec; array_get_dec) | (right; refine ⟨?_, ?_⟩; sizeOf_list_dec; array_get_dec))
    | ((with_reducible apply lc_ev); array_get_dec; assumption)
    | ((with_reducible apply sl_ev); array_get_dec; array_get_dec; array_get_dec; array_mem_dec)
    | with_reducible exact no_ev
    | ((with_reducible apply some_ev); array_get_dec)
    | ((with_reducible apply itR1_z); array_get_dec; omega; omega)
    | ((with_reducible apply itE_ev); array_get_dec; exact rfl)
    | with_reducible exact nx_ev
    | ((with_reducible apply seq_nx); array_get_dec; array_get_dec)
    | ((with_reducible apply seq_rt); array_get_dec)
    | ((with_reducible apply if_c); array_get_dec; first | (left; refine ⟨?_, ?_⟩; sizeOf_list_dec; array_get_dec) | (right; refine ⟨?_, ?_⟩; sizeOf_list_dec; array_get_dec))
    | ((with_reducible apply ret_ev); array_get_dec)
    | ((with_reducible apply set_ev); array_get_dec; exact rfl)
    | ((with_reducible apply expr_ev); array_get_dec)
    | ((with_reducible apply unp_ev); array_get_dec; exact rfl)
    | ((with_reducible apply par_ev); array_get_dec; exact rfl; exact rfl; exact rfl)
    | ((with_reducible apply for_ev); array_get_dec; assumption)
    | ((with_reducible apply put_ev); array_get_dec; array_get_dec; array_get_dec; exact rfl; array_mem_dec))
-- ENDMAC
theorem istup_ref (k n : Nat) {j : Nat} {ws : List W} {h : List O} (e : h[j]? = some (.lst ws)) : callF fns (k + 1) 1 [.ref j, .d (.int (n : Nat))] h = .ok (bR false) h := by
  apply call_rt (B := B1) (ρ := [.w (.ref j), .w (.d (.int n))]) rfl rfl rfl
  · unfold B1
    apply ret_ev
    apply andE_c
    array_get_dec
    exact rfl
    right
    exact ⟨rfl, rfl⟩
  · rfl
theorem pot_ref (k n : Nat) (es : List Ed) {j : Nat} {ws : List W} {h : List O} (e : h[j]? = some (.lst ws)) : callF fns (k + 2) 6 [.d (.int n), eT es, .ref j] h = .ok (bR false) h := by
  have C := istup_ref k n e
  apply call_ex (B := B6) (ρ := [.w (.d (.int n)), .w (eT es), .w (.ref j), .un, .un, .un, .un]) rfl rfl rfl
  generalize callF fns (k + 1) = call at *
  apply ex2
  · unfold B6
    array_get_dec
  · rfl
theorem arepot_ref (k n : Nat) (es : List Ed) {j : Nat} {ws : List W} {h : List O} (e : h[j]? = some (.lst ws)) : callF fns (k + 1) 14 [.d (.int n), eT es, .ref j] h = .ok (bR false) h := by
  apply call_rt (B := B14) (ρ := [.w (.d (.int n)), .w (eT es), .w (.ref j), .un, .un, .un]) rfl rfl rfl
  · unfold B14
    array_get_dec
  · rfl
/-- a thing: data, or the list at a place of the heap -/
def Thg (h : List O) (w : W) : Prop := (∃ x, w = .d x) ∨ ∃ j ws, w = .ref j ∧ h[j]? = some (.lst ws)
theorem c2_turn (k : Nat) {i n ci : Nat} {es : List Ed} (ok : Ok n es) (hl : es.length < 3900) (hn : n ≤ 900) {w : W} {h : List O} (hw : Thg h w) {e4 e5 e6 e7 e8 e9 e10 e11 e12 e14 e15 e16 e17 e18 e19 e20 : E0} :
    C17_2 (callF fns (k + 2)) (S17 i n ci es e4 e5 e6 e7 e8 e9 e10 e11 e12 (.w w) e14 e15 e16 e17 e18 e19 e20 h) = .nx (S17 i n ci es e4 e5 e6 e7 e8 e9 e10 e11 e12 (.w w) e14 e15 e16 e17 e18 e19 e20 h) := by
  rcases hw with ⟨x, rfl⟩ | ⟨j, ws, rfl, hj⟩
  · obtain ⟨h1, C1⟩ := pot_sp k n es x ok (by show es.length < 16777216; omega) (by omega)
    obtain ⟨h2, C2⟩ := arepot_sp (k + 1) n es x ok (by show es.length < 16777216; omega) (by omega)
    have C3 := bool_sp (k + 1) (isPotB n es x) (isPotB n es x) []
    rw [beq_self_eq_true] at C3
    generalize callF fns (k + 2) = call at *
    array_get_dec
  · have C1 := pot_ref k n es hj
    have C2 := arepot_ref (k + 1) n es hj
    have C3 := bool_sp (k + 1) false false []
    rw [beq_self_eq_true] at C3
    generalize callF fns (k + 2) = call at *
    array_get_dec
theorem c2_loop (k : Nat) {i n ci : Nat} {es : List Ed} (ok : Ok n es) (hl : es.length < 3900) (hn : n ≤ 900) {h : List O} {kp : Option (Nat × O)} (hk : ∀ ρ, kept ⟨ρ, h⟩ kp = true) {e4 e5 e6 e7 e8 e9 e10 e11 e12 e13 e14 e15 e16 e17 e18 e19 e20 : E0} (items : List W) (hi : ∀ w ∈ items, Thg h w) :
    ∃ e13', forL kp (tgV 13) (C17_2 (callF fns (k + 2))) items (S17 i n ci es e4 e5 e6 e7 e8 e9 e10 e11 e12 e13 e14 e15 e16 e17 e18 e19 e20 h) = .nx (S17 i n ci es e4 e5 e6 e7 e8 e9 e10 e11 e12 e13' e14 e15 e16 e17 e18 e19 e20 h) := by
  obtain ⟨s', L, e13', rfl⟩ := forL_inv (k := kp) (g := tgV 13) (p := C17_2 (callF fns (k + 2))) (I := fun _ s => ∃ e, s = S17 i n ci es e4 e5 e6 e7 e8 e9 e10 e11 e12 e e14 e15 e16 e17 e18 e19 e20 h) items 0 (fun _ s hs => by obtain ⟨e, rfl⟩ := hs; exact hk _)
    (fun m s w hw hs => by
      obtain ⟨e, rfl⟩ := hs
      exact ⟨_, _, rfl, c2_turn k ok hl hn (hi w (List.mem_of_getElem? hw)), _, rfl⟩) (s := S17 i n ci es e4 e5 e6 e7 e8 e9 e10 e11 e12 e13 e14 e15 e16 e17 e18 e19 e20 h) ⟨_, rfl⟩
  exact ⟨e13', L⟩
theorem c1_turn {call : Call} {i n ci u : Nat} {es : List Ed} {ps : List Int} (hp : ps.length ≤ 900) {ws : List W} (hw : ws.length < 100) {x : D} {e5 e6 e7 e8 e9 e13 e14 e15 e16 e17 e18 e19 e20 : E0} {h : List O} :
    ∃ y, C17_1 call (S17 i n ci es (.w (pT ps)) e5 e6 e7 e8 e9 (.w (iW u)) (.own (.lst ws)) (.w (.d x)) e13 e14 e15 e16 e17 e18 e19 e20 h) = .nx (S17 i n ci es (.w (pT ps)) e5 e6 e7 e8 e9 (.w (iW u)) (.own (.lst (ws ++ [.d y]))) (.w (.d x)) e13 e14 e15 e16 e17 e18 e19 e20 h) := by
  have hp2 : (ps.map D.int).length ≤ 900 := by rw [List.length_map]; exact hp
  have l1 := cut_len (xs := ps.map D.int) (lo := none) (hi := some (u : Int))
  have l2 := cut_len (xs := ps.map D.int) (lo := some ((u : Int) + 1)) (hi := none)
  rw [List.length_map] at l1 l2
  refine ⟨.tup ((Mn.cut (ps.map D.int) none (some (u : Int)) ++ [x]) ++ Mn.cut (ps.map D.int) (some ((u : Int) + 1)) none), ?_⟩
  apply nx_as
  · array_get_dec
  · rfl
theorem c1_loop {call : Call} {i n ci u : Nat} {es : List Ed} {ps : List Int} (hp : ps.length ≤ 900) (ws : List W) (xs : List D) (hw : ws.length + xs.length < 100) {e5 e6 e7 e8 e9 e12 e13 e14 e15 e16 e17 e18 e19 e20 : E0} {h : List O} :
    ∃ (ys : List D) (e12' : E0), forL none (tgV 12) (C17_1 call) (xs.map W.d) (S17 i n ci es (.w (pT ps)) e5 e6 e7 e8 e9 (.w (iW u)) (.own (.lst ws)) e12 e13 e14 e15 e16 e17 e18 e19 e20 h) = .nx (S17 i n ci es (.w (pT ps)) e5 e6 e7 e8 e9 (.w (iW u)) (.own (.lst (ws ++ ys.map W.d))) e12' e13 e14 e15 e16 e17 e18 e19 e20 h) := by
  induction xs generalizing ws e12 with
  | nil => exact ⟨[], e12, by rw [List.map_nil, List.append_nil]; exact forL_nil rfl⟩
  | cons x xs ih =>
    simp only [List.length_cons] at hw
    obtain ⟨y, T⟩ := c1_turn (call := call) (i := i) (n := n) (ci := ci) (u := u) (es := es) hp (ws := ws) (by omega) (x := x) (e5 := e5) (e6 := e6) (e7 := e7) (e8 := e8) (e9 := e9) (e13 := e13) (e14 := e14) (e15 := e15) (e16 := e16) (e17 := e17) (e18 := e18) (e19 := e19) (e20 := e20) (h := h)
    obtain ⟨ys, e12', L⟩ := ih (ws ++ [.d y]) (by rw [List.length_append]; simp only [List.length_cons, List.length_nil]; omega) (e12 := .w (.d x))
    refine ⟨y :: ys, e12', ?_⟩
    have : ws ++ (y :: ys).map W.d = ws ++ [.d y] ++ ys.map W.d := by simp
    rw [this]
    exact forL_cons rfl rfl T L
def fA (x : Int) : D := .int (x + 10 ^ 50)
def fB (x : Int) : D := .int (0 - x)
def fC (x : Int) : D := .bl (x == 0)
theorem C17_ev (k : Nat) {i gi li n ci : Nat} {es : List Ed} {ps : List Int} {p0 : Nat → Int} (ok : Ok n es) (hl : es.length < 3900) (h1 : 1 ≤ n) (hn : n ≤ 900) (hp : Pot es p0) (pl : ps.length = n) (pb : ∀ a ∈ ps, a.natAbs.log2 < 1920)
    {e5 e6 e7 e8 e9 e10 e11 e12 e13 e14 e15 e16 e17 e18 e19 e20 : E0} (f14 : e14.free = true) {h : List O} (S : Sc i gi li h) :
    ∃ s', C17 (callF fns (k + 2)) (S17 i n ci es (.w (pT ps)) e5 e6 e7 e8 e9 e10 e11 e12 e13 e14 e15 e16 e17 e18 e19 e20 h) = .rt (bR true) s' ∧ Gw i gi li h s'.h := by
  obtain ⟨ra, ha, Ca, la, a1, a2⟩ := ld_call (k + 1) (p := 5) (v := 5) (m := (n : Int)) rfl S (by omega) (by omega) (by omega)
  obtain ⟨u, rfl⟩ := Int.eq_ofNat_of_zero_le a1
  have hu : u < ps.length := by omega
  have xu : (ps.map D.int)[u]? = some (.int ps[u]) := by rw [List.getElem?_map, List.getElem?_eq_getElem hu]; rfl
  have bu := pb _ (List.getElem_mem hu)
  have hpl : ps.length ≤ LN := Nat.le_trans (m := 1000) (by omega) (by decide)
  obtain ⟨ea, LA⟩ := lcI (e := op2 addV (vE 14) (op2 powV (kE (.int 10)) (kE (.int 50)))) (ρ := (S17 i n ci es (.w (pT ps)) e5 e6 e7 e8 e9 (.w (iW u)) e11 e12 e13 e14 e15 e16 e17 e18 e19 e20 ha).ρ) (i := 14) (h := ha) (e0 := e14) fA (by show 14 < 21; omega) rfl f14 ps hpl (fun p hp => by apply ok_as; array_get_dec; rfl; rfl)
  obtain ⟨eb, LB⟩ := lcI (e := op2 subV (kE (.int 0)) (vE 14)) (ρ := (S17 i n ci es (.w (pT ps)) e5 e6 e7 e8 e9 (.w (iW u)) e11 e12 e13 e14 e15 e16 e17 e18 e19 e20 ha).ρ) (i := 14) (h := ha) (e0 := e14) fB (by show 14 < 21; omega) rfl f14 ps hpl (fun p hp => by apply ok_as; array_get_dec; rfl; rfl)
  obtain ⟨ec, LC⟩ := lcI (e := op2 eqV (vE 14) (kE (.int 0))) (ρ := (S17 i n ci es (.w (pT ps)) e5 e6 e7 e8 e9 (.w (iW u)) e11 e12 e13 e14 e15 e16 e17 e18 e19 e20 ha).ρ) (i := 14) (h := ha) (e0 := e14) fC (by show 14 < 21; omega) rfl f14 ps hpl (fun p hp => by apply ok_as; array_get_dec; rfl; rfl)
  generalize hws : [W.d (.tup (ps.map fA)), .d (.tup (ps.map fB)), .d (.tup (List.replicate n (.int 0))), .ref ha.length, .d (.tup (Mn.cut (ps.map D.int) none (some (-1)))), .d (.tup (ps.map D.int ++ [.int 0])), .d .non, .d (.int 7), .d (.str [48]), .d (.tup (ps.map fC)), .d (.tup [.tup (ps.map D.int)])] = ws
  have wl : ws.length = 11 := by rw [← hws]; rfl
  have hA := Sc.app la.sc [.lst ((ps.map D.int).map W.d)]
  generalize hhB : ha ++ [.lst ((ps.map D.int).map W.d)] = hB at hA
  obtain ⟨ys, e12', L1⟩ := c1_loop (call := callF fns (k + 2)) (i := i) (n := n) (ci := ci) (u := u) (es := es) (ps := ps) (by omega) ws [.int (ps[u] + 1), .int (ps[u] - 1), .int (ps[u] - 10 ^ 45), .non, .str ((toString ps[u]).toList.map Char.toNat), .tup [.int ps[u]], .bl true, .bl false] (by rw [wl]; simp only [List.length_cons, List.length_nil]; omega) (e5 := e5) (e6 := e6) (e7 := e7) (e8 := e8) (e9 := e9) (e12 := e12) (e13 := e13) (e14 := e14) (e15 := e15) (e16 := e16) (e17 := e17) (e18 := e18) (e19 := e19) (e20 := e20) (h := hB)
  have hC := Sc.app hA.sc [.lst (ws ++ ys.map W.d)]
  generalize hhC : hB ++ [.lst (ws ++ ys.map W.d)] = hD at hC
  obtain ⟨e13', L2⟩ := c2_loop k (i := i) (ci := ci) ok hl hn (h := hD) (kp := some (hB.length, .lst (ws ++ ys.map W.d))) (fun ρ => decide_eq_true (by rw [← hhC]; simp)) (e4 := .w (pT ps)) (e5 := e5) (e6 := e6) (e7 := e7) (e8 := e8) (e9 := e9) (e10 := .w (iW u)) (e11 := .w (.ref hB.length)) (e12 := e12') (e13 := e13) (e14 := e14) (e15 := e15) (e16 := e16) (e17 := e17) (e18 := e18) (e19 := e19) (e20 := e20) (ws ++ ys.map W.d) (fun w hw => by
    rcases List.mem_append.mp hw with hw | hw
    · rw [← hws] at hw
      simp only [List.mem_cons, List.not_mem_nil, or_false] at hw
      rcases hw with rfl | rfl | rfl | rfl | rfl | rfl | rfl | rfl | rfl | rfl | rfl
      case inr.inr.inr.inl => exact .inr ⟨_, (ps.map D.int).map W.d, rfl, by rw [← hhC, ← hhB]; simp⟩
      all_goals exact .inl ⟨_, rfl⟩
    · obtain ⟨y, _, rfl⟩ := List.mem_map.mp hw
      exact .inl ⟨_, rfl⟩)
  obtain ⟨s', DE, gw⟩ := D17_ev k (i := i) (ci := ci) ok hl h1 hn hp (e4 := .w (pT ps)) (e5 := e5) (e6 := e6) (e7 := e7) (e8 := e8) (e9 := e9) (e10 := .w (iW u)) (e11 := .w (.ref hB.length)) (e12 := e12') (e13 := e13') (e14 := e14) (e15 := e15) (e16 := e16) (e17 := e17) (e18 := e18) (e19 := e19) (e20 := e20) (h := hD) hC.sc
  refine ⟨s', ?_, ((la.gw.trans hA).trans hC).trans gw⟩
  have LL : lstE (asC (op1 tupleV (lcE (itE (vE 4)) (tgV 14) (yesT) (op2 addV (vE 14) (op2 powV (kE (.int 10)) (kE (.int 50)))) [14])) (asC (op1 tupleV (lcE (itE (vE 4)) (tgV 14) (yesT) (op2 subV (kE (.int 0)) (vE 14)) [14])) (asC (op2 mulV (tupE (asC (kE (.int 0)) (asN))) (vE 1)) (asC (op1 listV (vE 4)) (asC (slE (vE 4) (noO) (someO (op1 negV (kE (.int 1))))) (asC (op2 addV (vE 4) (tupE (asC (kE (.int 0)) (asN)))) (asC (kE .non) (asC (kE (.int 7)) (asC (kE (.str [48])) (asC (op1 tupleV (lcE (itE (vE 4)) (tgV 14) (yesT) (op2 eqV (vE 14) (kE (.int 0))) [14])) (asC (tupE (asC (vE 4) (asN))) (asN)))))))))))) (S17 i n ci es (.w (pT ps)) e5 e6 e7 e8 e9 (.w (iW u)) e11 e12 e13 e14 e15 e16 e17 e18 e19 e20 ha) = .ok (.new (.lst ws)) (S17 i n ci es (.w (pT ps)) e5 e6 e7 e8 e9 (.w (iW u)) e11 e12 e13 e14 e15 e16 e17 e18 e19 e20 hB) := by
    rw [← hws, ← hhB]
    clear L1 L2 DE Ca gw hC hA
    have hpl2 : ps.length ≤ 900 := by omega
    apply ok_as
    · array_get_dec
    · rfl
    · rfl
  clear LA LB LC
  subst hhC
  apply seq_nx
  · array_get_dec
  apply seq_nx
  · apply set_ev
    · exact LL
    · exact rfl
  apply seq_nx
  · array_get_dec
  apply seq_nx
  · apply for_ev
    · apply itE_ev
      · array_get_dec
      · exact rfl
    · exact L2
  · exact DE
end HeadT

set_option linter.all false
set_option maxRecDepth 100000
set_option maxHeartbeats 2000000
namespace HeadT
open Mn BF
-- MAC
local macro_rules
  | `(tactic| sizeOf_list_dec) => `(tactic| first | exact rfl | with_reducible assumption | exact decide_eq_true (by omega) | exact decide_eq_false (by omega) | (rw [Bool.not_eq_true']; exact decide_eq_false (by omega)) | (rw [Bool.not_eq_false']; exact decide_eq_true (by omega)) | (simp (config := { decide := true }) only [*, decide_true, decide_false, Bool.not_true, Bool.not_false]; done))
local macro_rules
  | `(tactic| array_mem_dec) => `(tactic| first
    | ((with_reducible apply mul_v); omega)
    | ((with_reducible apply mul_one); omega)
    | ((with_reducible apply mul_tup); omega)
    | with_reducible exact tup_map
    | with_reducible exact eqV_int
    | with_reducible exact neV_int
    | ((with_reducible apply ins_slot); exact rfl; ((show (_ : Nat) < 16777216); (try simp only [List.length_map, List.length_append, List.length_cons, List.length_nil]); omega); omega; omega)
    | ((with_reducible apply str_v); assumption)
    | ((with_reducible apply isi_ref); assumption)
    | ((with_reducible apply add_tup); (try simp only [List.length_map, List.length_append, List.length_replicate, List.length_cons, List.length_nil]); omega)
    | ((with_reducible apply mod_v); omega)
    | ((with_reducible apply div_v) <;> omega)
    | ((with_reducible apply app_slot); exact rfl; (show (_ : Nat) < 16777216); (try simp only [List.length_map, List.length_append, List.length_cons, List.length_nil]); omega)
    | ((with_reducible apply pop_slot); exact rfl; omega; omega; first | assumption | exact rfl)
    | ((with_reducible apply putz_own); exact rfl; omega; (try simp only [List.length_set, List.length_map, List.length_append, List.length_replicate, List.length_cons, List.length_nil]); omega)
    | ((with_reducible apply putz_ref); assumption; omega; (try simp only [List.length_set, List.length_map, List.length_append, List.length_replicate, List.length_cons, List.length_nil]); omega)
    | ((with_reducible apply ixz_own); exact rfl; omega; first | assumption | exact rfl)
    | ((with_reducible apply ixz_tup); omega; first | assumption | exact rfl)
    | ((with_reducible apply ixz_ref); assumption; omega; first | assumption | exact rfl)
    | exact rfl
    | assumption)
local macro_rules
  | `(tactic| array_get_dec) => `(tactic| first
    | with_reducible exact kE_ev
    | ((with_reducible apply vE_w); exact rfl)
    | ((with_reducible apply vE_o); exact rfl)
    | ((with_reducible apply op2_ev); array_get_dec; array_get_dec; array_mem_dec)
    | ((with_reducible apply op1_ev); array_get_dec; array_mem_dec)
    | with_reducible exact asN_ev
    | ((with_reducible apply asC_ev); array_get_dec; array_get_dec)
    | ((with_reducible apply tupD_ev); array_get_dec; exact rfl; exact rfl; (show (_ : Nat) ≤ 16777216); simp)
    | ((with_reducible apply tup_ev); array_get_dec; exact rfl; (show (_ : Nat) ≤ 16777216); simp)
    | ((with_reducible apply lst_ev); array_get_dec; exact rfl; (show (_ : Nat) ≤ 16777216); simp)
    | ((with_reducible apply callH_ev); array_get_dec; exact rfl; first | (apply callV_p; exact rfl; assumption; exact rfl) | (apply callV_q; exact rfl; assumption))
    | ((with_reducible apply callE_q); array_get_dec; exact rfl; assumption)
    | ((with_reducible apply meth_ev); array_get_dec; (first | exact rfl | exact isl_ref (by assumption)); array_get_dec; array_mem_dec)
    | ((with_reducible apply tst_eq); array_get_dec; array_mem_dec; exact rfl)
    | ((with_reducible apply notT_eq); array_get_dec; exact rfl)
    | ((with_reducible apply and_c); array_get_dec; first | (left; refine ⟨?_, ?_⟩; sizeOf_list_dec; array_get_dec) | (right; refine ⟨?_, ?_⟩; sizeOf_list_dec; exact rfl))
    | ((with_reducible apply or_c); array_get_dec; first | (left; refine ⟨?_, ?_⟩; sizeOf_list_dec; exact rfl) | (right; refine ⟨?_, ?_⟩; sizeOf_list_dec; array_get_dec))
    | ((with_reducible apply andE_c); array_get_dec; array_mem_dec; first | (left; refine ⟨?_, ?_⟩; sizeOf_list_dec; array_get_dec) | (right; refine ⟨?_, ?_⟩; sizeOf_list_dec; exact rfl))
    | ((with_reducible apply orE_c); array_get_dec; array_mem_dec; first | (left; refine ⟨?_, ?_⟩; sizeOf_list_dec; exact rfl) | (right; refine ⟨?_, ?_⟩; sizeOf_list_dec; array_get_dec))
    | ((with_reducible apply chE_t); array_get_dec; array_get_dec; array_mem_dec; array_get_dec; array_mem_dec)
    | ((with_reducible apply chE_f); array_get_dec; array_get_dec; array_mem_dec)
    | ((with_reducible apply ite_c); array_get_dec; first | (left; refine ⟨?_, ?_⟩; sizeOf_list_dec; array_get_dec) | (right; refine ⟨?_, ?_⟩; sizeOf_list_dec; array_get_dec))
    | ((with_reducible apply lc_ev); array_get_dec; assumption)
    | ((with_reducible apply sl_ev); array_get_dec; array_get_dec; array_get_dec; array_mem_dec)
    | with_reducible exact no_ev
    | ((with_reducible apply some_ev); array_get_dec)
    | ((with_reducible apply itR1_z); array_get_dec; omega; omega)
    | ((with_reducible apply itE_ev); array_get_dec; exact rfl)
    | with_reducible exact nx_ev
    | ((with_reducible apply seq_nx); array_get_dec; array_get_dec)
    | ((with_reducible apply seq_rt); array_get_dec)
    | ((with_reducible apply if_c); array_get_dec; first | (left; refine ⟨?_, ?_⟩; sizeOf_list_dec; array_get_dec) | (right; refine ⟨?_, ?_⟩; sizeOf_list_dec; array_get_dec))
    | ((with_reducible apply ret_ev); array_get_dec)
    | ((with_reducible apply set_ev); array_get_dec; exact rfl)
    | ((with_reducible apply expr_ev); array_get_dec)
    | ((with_reducible apply unp_ev); array_get_dec; exact rfl)
    | ((with_reducible apply par_ev); array_get_dec; exact rfl; exact rfl; exact rfl)
    | ((with_reducible apply for_ev); array_get_dec; assumption)
    | ((with_reducible apply put_ev); array_get_dec; array_get_dec; array_get_dec; exact rfl; array_mem_dec))
-- ENDMAC
abbrev bgL (n c : Nat) : O := .lst ((List.replicate n (.d .non)).set c (.d (.int 0)))
theorem a1_turn (k : Nat) {i n ci c : Nat} {es : List Ed} {p0 : Nat → Int} (ok : Ok n es) (hl : es.length < 3900) (hn : n ≤ 900) (hp : Pot es p0) (hc : c < n) {h : List O} {e4 e5 e6 e7 e9 e10 e11 e12 e13 e14 e15 e16 e17 e18 e19 e20 : E0} :
    A17_1 (callF fns (k + 2)) (S17 i n ci es e4 e5 e6 e7 (.w (iW c)) e9 e10 e11 e12 e13 e14 e15 e16 e17 e18 e19 e20 h) = .nx (S17 i n ci es e4 e5 e6 e7 (.w (iW c)) (.w (.ref h.length)) e10 e11 e12 e13 e14 e15 e16 e17 e18 e19 e20 (h ++ [bgL n c])) := by
  obtain ⟨t, ht⟩ := pot_settles (s := bg n c) ok (bg_len n c) hp
  have C := settled_sp (k + 1) n h.length es (bg n c) (h ++ [bgL n c]) (by rw [bg_map]; simp) (by rw [bg_len]; exact ok) (by omega)
  rw [ht] at C
  have tl : t.length = n := by rw [← (stl_some ht).2 n (by omega), rn_len, bg_len]
  obtain ⟨h5, C5⟩ := least_sp k n c (n + 1) es t ok (by show es.length < 16777216; omega) (by omega) hc (by omega) ht
  have C15 := same_sp (k + 1) t (by omega) []
  generalize callF fns (k + 2) = call at *
  apply nx_as
  · array_get_dec
  · rfl
theorem A17_ev (k : Nat) {i gi li n ci : Nat} {es : List Ed} {ps : List Int} {p0 : Nat → Int} (ok : Ok n es) (hl : es.length < 3900) (h1 : 1 ≤ n) (hn : n ≤ 900) (hp : Pot es p0) (pl : ps.length = n) (pb : ∀ a ∈ ps, a.natAbs.log2 < 1920)
    {e5 e6 e7 e8 e9 e10 e11 e12 e13 e14 e15 e16 e17 e18 e19 e20 : E0} (f14 : e14.free = true) {h : List O} (S : Sc i gi li h) :
    ∃ s', A17 (callF fns (k + 2)) (S17 i n ci es (.w (pT ps)) e5 e6 e7 e8 e9 e10 e11 e12 e13 e14 e15 e16 e17 e18 e19 e20 h) = .rt (bR true) s' ∧ Gw i gi li h s'.h := by
  obtain ⟨ra, ha, Ca, la, a1, a2⟩ := ld_call (k + 1) (p := 4) (v := 4) (m := (n : Int)) rfl S (by omega) (by omega) (by omega)
  obtain ⟨u, rfl⟩ := Int.eq_ofNat_of_zero_le a1
  have hu : u < n := by omega
  have en : ((n : Int) - 1) = ((n - 1 : Nat) : Int) := by omega
  generalize hws : [iW 0, iW (n - 1), iW u] = ws
  have g0 := Sc.app la.sc [.lst ws]
  generalize hh0 : ha ++ [O.lst ws] = hA at g0
  have k0 : ∀ (l : List O) (ρ : List E0), kept ⟨ρ, hA ++ l⟩ (some (ha.length, .lst ws)) = true := fun l ρ => decide_eq_true (by rw [← hh0]; simp)
  have k00 : ∀ (ρ : List E0), kept ⟨ρ, hA⟩ (some (ha.length, .lst ws)) = true := fun ρ => decide_eq_true (by rw [← hh0]; simp)
  have T1 := fun h e9 => a1_turn k (i := i) (ci := ci) (c := 0) ok hl hn hp (by omega) (h := h) (e4 := .w (pT ps)) (e5 := e5) (e6 := e6) (e7 := .w (.ref ha.length)) (e9 := e9) (e10 := e10) (e11 := e11) (e12 := e12) (e13 := e13) (e14 := e14) (e15 := e15) (e16 := e16) (e17 := e17) (e18 := e18) (e19 := e19) (e20 := e20)
  have T2 := fun h e9 => a1_turn k (i := i) (ci := ci) (c := n - 1) ok hl hn hp (by omega) (h := h) (e4 := .w (pT ps)) (e5 := e5) (e6 := e6) (e7 := .w (.ref ha.length)) (e9 := e9) (e10 := e10) (e11 := e11) (e12 := e12) (e13 := e13) (e14 := e14) (e15 := e15) (e16 := e16) (e17 := e17) (e18 := e18) (e19 := e19) (e20 := e20)
  have T3 := fun h e9 => a1_turn k (i := i) (ci := ci) (c := u) ok hl hn hp (by omega) (h := h) (e4 := .w (pT ps)) (e5 := e5) (e6 := e6) (e7 := .w (.ref ha.length)) (e9 := e9) (e10 := e10) (e11 := e11) (e12 := e12) (e13 := e13) (e14 := e14) (e15 := e15) (e16 := e16) (e17 := e17) (e18 := e18) (e19 := e19) (e20 := e20)
  have g1 := Sc.app g0.sc ([bgL n 0] ++ [bgL n (n - 1)] ++ [bgL n u])
  generalize hh1 : hA ++ ([bgL n 0] ++ [bgL n (n - 1)] ++ [bgL n u]) = hB at g1
  obtain ⟨s', CE, gw⟩ := C17_ev k (i := i) (ci := ci) ok hl h1 hn hp pl pb (e5 := e5) (e6 := e6) (e7 := .w (.ref ha.length)) (e8 := .w (iW u)) (e9 := .w (.ref (hA ++ [bgL n 0] ++ [bgL n (n - 1)]).length)) (e10 := e10) (e11 := e11) (e12 := e12) (e13 := e13) (e14 := e14) (e15 := e15) (e16 := e16) (e17 := e17) (e18 := e18) (e19 := e19) (e20 := e20) f14 (h := hB) g1.sc
  have L : forL (some (ha.length, .lst ws)) (tgV 8) (A17_1 (callF fns (k + 2))) ws (S17 i n ci es (.w (pT ps)) e5 e6 (.w (.ref ha.length)) e8 e9 e10 e11 e12 e13 e14 e15 e16 e17 e18 e19 e20 hA) = .nx (S17 i n ci es (.w (pT ps)) e5 e6 (.w (.ref ha.length)) (.w (iW u)) (.w (.ref (hA ++ [bgL n 0] ++ [bgL n (n - 1)]).length)) e10 e11 e12 e13 e14 e15 e16 e17 e18 e19 e20 hB) := by
    rw [← hh1, ← List.append_assoc, ← List.append_assoc]
    generalize hk : (some (ha.length, O.lst ws)) = kp at *
    rw [← hws]
    refine forL_cons (k00 _) rfl (T1 _ _) (forL_cons (k0 _ _) rfl (T2 _ _) (forL_cons ?_ rfl (T3 _ _) (forL_nil ?_)))
    · rw [List.append_assoc]; exact k0 _ _
    · rw [List.append_assoc, List.append_assoc]; exact k0 _ _
  refine ⟨s', ?_, ((la.gw.trans g0).trans g1).trans gw⟩
  clear T1 T2 T3
  have LL : setS 7 (lstE (asC (kE (.int 0)) (asC (op2 subV (vE 1) (kE (.int 1))) (asC (callH (callF fns (k + 2)) 8 (asC (vE 0) (asC (kE (.int 4)) (asC (vE 1) (asN))))) (asN))))) (S17 i n ci es (.w (pT ps)) e5 e6 e7 e8 e9 e10 e11 e12 e13 e14 e15 e16 e17 e18 e19 e20 h) = .nx (S17 i n ci es (.w (pT ps)) e5 e6 (.own (.lst ws)) e8 e9 e10 e11 e12 e13 e14 e15 e16 e17 e18 e19 e20 ha) := by
    rw [← hws, show iW (n - 1) = zW ((n : Int) - 1) by rw [en]]
    clear L CE
    generalize callF fns (k + 2) = call at *
    apply nx_as
    · array_get_dec
    · rfl
  subst hh0
  exact seq_nx LL (seq_nx (for_ev rfl L) CE)
theorem Sc.set {i gi li ci : Nat} {h : List O} {o : O} (S : Sc i gi li h) (h1 : ci ≠ i) (h2 : ci ≠ gi) (h3 : ci ≠ li) : Sc i gi li (h.set ci o) := by
  obtain ⟨great, mixed, cnt, leans, S⟩ := S
  exact ⟨great, mixed, cnt, leans, by rw [List.getElem?_set_ne h1]; exact S.at_, by rw [List.getElem?_set_ne h2]; exact S.g, by rw [List.getElem?_set_ne h3]; exact S.l, S.n1, S.n2, S.n3, S.len, S.few⟩
theorem z0_oD (n : Nat) : (z0 n).map oD = List.replicate n (zW 0) := z0_map n
/-- _law_asked: where they settle -/
theorem asked_yes (k : Nat) {i gi li n ci : Nat} {es : List Ed} {c0 c1 : Int} {M : Int} (ok : Ok n es) (hM : ∀ e ∈ es, -M ≤ e.2.2 ∧ e.2.2 ≤ M) (hMb : M ≤ 1000 * big) (hM0 : 0 ≤ M) (hl : es.length < 1000) (h1 : 1 ≤ n) (hn : n ≤ 900) {p0 : Nat → Int} (hp : Pot es p0) {h : List O} (S : Sc i gi li h) (n1 : ci ≠ i) (n2 : ci ≠ gi) (n3 : ci ≠ li) (hc : h[ci]? = some (.lst [zW c0, zW c1])) :
    ∃ h', callF fns (k + 3) 17 [.ref i, iW n, eT es, .ref ci] h = .ok (bR true) h' ∧ Sc i gi li h' ∧ h'[ci]? = some (.lst [zW (c0 + 1), zW c1]) := by
  have hcl := (List.getElem?_eq_some_iff.mp hc).1
  have g0 := Sc.app S [.lst (List.replicate n (zW 0))]
  obtain ⟨t, ht⟩ := (stl_pot ok).mpr ⟨p0, hp⟩
  have C := settled_sp (k + 1) n h.length es (z0 n) (h ++ [.lst (List.replicate n (zW 0))]) (by rw [z0_oD]; simp) (by rw [z0_len]; exact ok) (by omega)
  rw [ht] at C
  obtain ⟨ps, rfl, pl, pp, pb⟩ := settled_ints ok hM ht
  have eps : (ps.map some).map oDd = ps.map D.int := by rw [List.map_map]; rfl
  have C : callF fns (k + 2) 12 [.d (.int n), eT es, .ref h.length] (h ++ [.lst (List.replicate n (zW 0))]) = .ok (.w (pT ps)) (h ++ [.lst (List.replicate n (zW 0))]) := by
    rw [← show (tW (some (ps.map some))) = pT ps by show W.d (.tup _) = _; rw [eps]]
    exact C
  generalize hhA : h ++ [O.lst (List.replicate n (zW 0))] = hA at *
  have hcA : hA[ci]? = some (.lst [zW c0, zW c1]) := by rw [← hhA, List.getElem?_append_left hcl]; exact hc
  obtain ⟨h4, C4⟩ := fall_none k n es ok (by show es.length < 16777216; omega) (by omega) hp
  obtain ⟨h6, C6⟩ := pot_sp k n es (.tup (ps.map D.int)) ok (by show es.length < 16777216; omega) (by omega)
  have e6 : isPotB n es (.tup (ps.map D.int)) = true := by
    show (decide ((ps.map D.int).length = n) && (match intsD (ps.map D.int) with
      | some p => es.all (potB p)
      | none => false)) = true
    rw [intsD_map, List.length_map, decide_eq_true pl, Bool.true_and]
    exact List.all_eq_true.mpr fun e he => decide_eq_true (pp e he)
  rw [e6] at C6
  have C16 := bool_sp (k + 1) true true []
  have S2 := Sc.set (o := .lst [zW (c0 + 1), zW c1]) g0.sc n1 n2 n3
  generalize hhB : hA.set ci (.lst [zW (c0 + 1), zW c1]) = hB at S2
  have hcB : hB[ci]? = some (.lst [zW (c0 + 1), zW c1]) := by
    rw [← hhB]; exact List.getElem?_set_self (List.getElem?_eq_some_iff.mp hcA).1
  obtain ⟨s', AE, gw⟩ := A17_ev k (i := i) (ci := ci) ok (by omega) h1 hn hp pl (fun a ha => by
      have := pb a ha
      have h5 : a.natAbs < 2 ^ 1920 := by
        have e1 : (((n * es.length : Nat) : Int)) * M ≤ 1000000 * (1000 * big) := by
          have q1 : n * es.length ≤ 1000 * 1000 := Nat.mul_le_mul (by omega) (by omega)
          refine Int.le_trans (Int.mul_le_mul_of_nonneg_right (show ((n * es.length : Nat) : Int) ≤ 1000000 by omega) hM0) (Int.mul_le_mul_of_nonneg_left hMb (by omega))
        have e2 : a.natAbs ≤ 10 ^ 60 := by
          unfold big at e1
          omega
        exact Nat.lt_of_le_of_lt e2 (by decide +kernel)
      by_cases z : a.natAbs = 0
      · rw [z]; decide
      · exact (Nat.log2_lt z).mpr h5) (e5 := .w (.d .non)) (e6 := .un) (e7 := .un) (e8 := .un) (e9 := .un) (e10 := .un) (e11 := .un) (e12 := .un) (e13 := .un) (e14 := .un) (e15 := .un) (e16 := .un) (e17 := .un) (e18 := .un) (e19 := .un) (e20 := .un) rfl (h := hB) S2
  refine ⟨s'.h, ?_, gw.sc, by rw [gw.oth ci (List.getElem?_eq_some_iff.mp hcB).1 n1 n2 n3]; exact hcB⟩
  apply call_ex (B := B17) (ρ := (S17 i n ci es .un .un .un .un .un .un .un .un .un .un .un .un .un .un .un .un .un h).ρ) rfl rfl rfl
  refine ⟨bR true, s', ?_, rfl⟩
  unfold B17
  clear gw pb hM
  generalize callF fns (k + 2) = call at *
  apply seq_nx
  · apply set_ev
    · apply callH_ev
      · array_get_dec
      · exact rfl
      · apply callV_q
        · exact rfl
        · subst hhA; exact C
    · exact rfl
  have hcA0 : (h ++ [O.lst (List.replicate n (zW 0))])[ci]? = some (.lst [zW c0, zW c1]) := by rw [hhA]; exact hcA
  apply seq_nx
  · array_get_dec
  subst hhA
  apply seq_nx
  · array_get_dec
  apply seq_nx
  · array_get_dec
  apply seq_nx
  · array_get_dec
  rw [← hhB] at AE
  exact AE
/-- _law_asked: where they fall on -/
theorem asked_no (k : Nat) {i gi li n ci : Nat} {es : List Ed} {c0 c1 : Int} (ok : Ok n es) (hl : es.length < 1000) (h1 : 1 ≤ n) (hn : n ≤ 900) (hp : ∀ p, ¬Pot es p) {h : List O} (S : Sc i gi li h) (n1 : ci ≠ i) (n2 : ci ≠ gi) (n3 : ci ≠ li) (hc : h[ci]? = some (.lst [zW c0, zW c1])) :
    ∃ h', callF fns (k + 3) 17 [.ref i, iW n, eT es, .ref ci] h = .ok (bR true) h' ∧ Sc i gi li h' ∧ h'[ci]? = some (.lst [zW c0, zW (c1 + 1)]) := by
  have hcl := (List.getElem?_eq_some_iff.mp hc).1
  have g0 := Sc.app S [.lst (List.replicate n (zW 0))]
  have C := settled_sp (k + 1) n h.length es (z0 n) (h ++ [.lst (List.replicate n (zW 0))]) (by rw [z0_oD]; simp) (by rw [z0_len]; exact ok) (by omega)
  have hs : stl es (n + 1) (z0 n) = none := by
    cases q : stl es (n + 1) (z0 n) with
    | none => rfl
    | some t =>
      obtain ⟨p, hp2⟩ := (stl_pot ok).mp ⟨t, q⟩
      exact absurd hp2 (hp p)
  rw [hs] at C
  have C : callF fns (k + 2) 12 [.d (.int n), eT es, .ref h.length] (h ++ [.lst (List.replicate n (zW 0))]) = .ok (.w (.d .non)) (h ++ [.lst (List.replicate n (zW 0))]) := C
  obtain ⟨h4, tl, x, L, c', C4, R⟩ := fall_some k n es ok (by show es.length < 16777216; omega) (by omega) hp
  obtain ⟨h13, C13⟩ := isfall_sp (k + 1) R (by omega)
  have npot : ∀ ps : List Int, ps.length = n → isPotB n es (.tup (ps.map D.int)) = false := fun ps pl => by
    show (decide ((ps.map D.int).length = n) && (match intsD (ps.map D.int) with
      | some p => es.all (potB p)
      | none => false)) = false
    rw [intsD_map, List.length_map, decide_eq_true pl, Bool.true_and]
    cases q : es.all (potB ps) with
    | false => exact q
    | true => exact absurd (fun e he => of_decide_eq_true (List.all_eq_true.mp q e he)) (hp fun v => ps.getD v 0)
  have hcA0 : (h ++ [O.lst (List.replicate n (zW 0))])[ci]? = some (.lst [zW c0, zW c1]) := by rw [List.getElem?_append_left hcl]; exact hc
  have S2 := Sc.set (o := .lst [zW c0, zW (c1 + 1)]) g0.sc n1 n2 n3
  generalize hhB : (h ++ [O.lst (List.replicate n (zW 0))]).set ci (.lst [zW c0, zW (c1 + 1)]) = hB at S2
  have hcB : hB[ci]? = some (.lst [zW c0, zW (c1 + 1)]) := by
    rw [← hhB]; exact List.getElem?_set_self (List.getElem?_eq_some_iff.mp hcA0).1
  obtain ⟨xs, s', x1, x2, ⟨h', e20, rfl, ld, fr⟩, x4⟩ := lc_st (t := tgV 20) (e := op2 subV (callH (callF fns (k + 2)) 8 (asC (vE 0) (asC (kE (.int 6)) (asC (kE (.int 9)) (asN))))) (kE (.int 4))) (vs := [20]) (Q := fun x => ∃ m : Int, x = .int m)
    (G := fun s => ∃ (h' : List O) (e20 : E0), s = S17 i n ci es (.w (.d .non)) (.w (.d (tT' tl))) .un .un .un .un .un .un .un .un .un .un .un .un .un .un e20 h' ∧ Ld i gi li hB h' ∧ e20.free = true)
    (fun s g => by obtain ⟨h', e10, rfl, _, f⟩ := g; show (e10.free && true) = true; rw [f]; rfl) ((List.range n).map iW) [] (S17 i n ci es (.w (.d .non)) (.w (.d (tT' tl))) .un .un .un .un .un .un .un .un .un .un .un .un .un .un .un hB) ⟨hB, .un, rfl, Ld.refl S2, rfl⟩
    (fun w hw s g => by
      obtain ⟨h', e20, rfl, ld, f⟩ := g
      obtain ⟨r, h2, C, ld2, r1, r2⟩ := ld_call (k + 1) (p := 6) (v := 6) (m := 9) rfl ld.sc (by omega) (by omega) (by omega)
      refine ⟨_, S17 i n ci es (.w (.d .non)) (.w (.d (tT' tl))) .un .un .un .un .un .un .un .un .un .un .un .un .un .un (.w w) h2, .int (r - 4), rfl, ?_, ⟨h2, _, rfl, ld.trans ld2, rfl⟩, _, rfl⟩
      have C : callF fns (k + 2) 8 [.ref i, .d (.int 6), .d (.int 9)] h' = .ok (iR r) h2 := C
      generalize callF fns (k + 2) = call at *
      apply ok_as
      · array_get_dec
      · rfl
      · rfl) (by rw [List.length_map, List.length_range]; show 0 + n < 16777216; omega)
  obtain ⟨ps, rfl⟩ : ∃ ps : List Int, xs = ps.map D.int := by
    clear x1 x4
    induction xs with
    | nil => exact ⟨[], rfl⟩
    | cons x xs ih =>
      obtain ⟨m, rfl⟩ := x2 x List.mem_cons_self
      obtain ⟨ms, rfl⟩ := ih fun y hy => x2 y (List.mem_cons_of_mem _ hy)
      exact ⟨m :: ms, rfl⟩
  have pl : ps.length = n := by simpa using x1
  rw [List.nil_append] at x4
  obtain ⟨h6, C6⟩ := pot_sp k n es (.tup (ps.map D.int)) ok (by show es.length < 16777216; omega) (by omega)
  rw [npot ps pl] at C6
  obtain ⟨h7, C7⟩ := pot_sp k n es (.tup (List.replicate n (.int 0))) ok (by show es.length < 16777216; omega) (by omega)
  rw [show List.replicate n (D.int 0) = (List.replicate n (0 : Int)).map D.int by rw [List.map_replicate], npot _ (by rw [List.length_replicate])] at C7
  rw [show (List.replicate n (0 : Int)).map D.int = List.replicate n (D.int 0) by rw [List.map_replicate]] at C7
  have C16 := bool_sp (k + 1) false false []
  rw [beq_self_eq_true] at C16
  refine ⟨h', ?_, ld.sc, by rw [ld.oth ci n1 n2 n3]; exact hcB⟩
  apply call_ex (B := B17) (ρ := (S17 i n ci es .un .un .un .un .un .un .un .un .un .un .un .un .un .un .un .un .un h).ρ) rfl rfl rfl
  clear npot x2
  subst hhB
  generalize callF fns (k + 2) = call at *
  apply ex2
  · unfold B17
    apply seq_nx
    · array_get_dec
    apply seq_nx
    · array_get_dec
    apply seq_nx
    · array_get_dec
    apply seq_rt
    apply if_c
    · array_get_dec
    left
    refine ⟨rfl, ?_⟩
    apply seq_nx
    · array_get_dec
    apply seq_nx
    · array_get_dec
    · array_get_dec
  · rfl
end HeadT

set_option linter.all false
set_option maxRecDepth 100000
set_option maxHeartbeats 2000000
namespace HeadT
open Mn BF
-- MAC
local macro_rules
  | `(tactic| sizeOf_list_dec) => `(tactic| first | exact rfl | with_reducible assumption | exact decide_eq_true (by omega) | exact decide_eq_false (by omega) | (rw [Bool.not_eq_true']; exact decide_eq_false (by omega)) | (rw [Bool.not_eq_false']; exact decide_eq_true (by omega)) | (simp (config := { decide := true }) only [*, decide_true, decide_false, Bool.not_true, Bool.not_false]; done))
local macro_rules
  | `(tactic| array_mem_dec) => `(tactic| first
    | ((with_reducible apply mul_v); omega)
    | ((with_reducible apply mul_one); omega)
    | ((with_reducible apply mul_tup); omega)
    | with_reducible exact tup_map
    | with_reducible exact eqV_int
    | with_reducible exact neV_int
    | ((with_reducible apply ins_slot); exact rfl; ((show (_ : Nat) < 16777216); (try simp only [List.length_map, List.length_append, List.length_cons, List.length_nil]); omega); omega; omega)
    | ((with_reducible apply str_v); assumption)
    | ((with_reducible apply isi_ref); assumption)
    | ((with_reducible apply add_tup); (try simp only [List.length_map, List.length_append, List.length_replicate, List.length_cons, List.length_nil]); omega)
    | ((with_reducible apply mod_v); omega)
    | ((with_reducible apply div_v) <;> omega)
    | ((with_reducible apply app_slot); exact rfl; (show (_ : Nat) < 16777216); (try simp only [List.length_map, List.length_append, List.length_cons, List.length_nil]); omega)
    | ((with_reducible apply pop_slot); exact rfl; omega; omega; first | assumption | exact rfl)
    | ((with_reducible apply putz_own); exact rfl; omega; (try simp only [List.length_set, List.length_map, List.length_append, List.length_replicate, List.length_cons, List.length_nil]); omega)
    | ((with_reducible apply putz_ref); assumption; omega; (try simp only [List.length_set, List.length_map, List.length_append, List.length_replicate, List.length_cons, List.length_nil]); omega)
    | ((with_reducible apply ixz_own); exact rfl; omega; first | assumption | exact rfl)
    | ((with_reducible apply ixz_tup); omega; first | assumption | exact rfl)
    | ((with_reducible apply ixz_ref); assumption; omega; first | assumption | exact rfl)
    | exact rfl
    | assumption)
local macro_rules
  | `(tactic| array_get_dec) => `(tactic| first
    | with_reducible exact kE_ev
    | ((with_reducible apply vE_w); exact rfl)
    | ((with_reducible apply vE_o); exact rfl)
    | ((with_reducible apply op2_ev); array_get_dec; array_get_dec; array_mem_dec)
    | ((with_reducible apply op1_ev); array_get_dec; array_mem_dec)
    | with_reducible exact asN_ev
    | ((with_reducible apply asC_ev); array_get_dec; array_get_dec)
    | ((with_reducible apply tupD_ev); array_get_dec; exact rfl; exact rfl; (show (_ : Nat) ≤ 16777216); simp)
    | ((with_reducible apply tup_ev); array_get_dec; exact rfl; (show (_ : Nat) ≤ 16777216); simp)
    | ((with_reducible apply lst_ev); array_get_dec; exact rfl; (show (_ : Nat) ≤ 16777216); simp)
    | ((with_reducible apply callH_ev); array_get_dec; exact rfl; first | (apply callV_p; exact rfl; assumption; exact rfl) | (apply callV_q; exact rfl; assumption))
    | ((with_reducible apply callE_q); array_get_dec; exact rfl; assumption)
    | ((with_reducible apply meth_ev); array_get_dec; (first | exact rfl | exact isl_ref (by assumption)); array_get_dec; array_mem_dec)
    | ((with_reducible apply tst_eq); array_get_dec; array_mem_dec; exact rfl)
    | ((with_reducible apply notT_eq); array_get_dec; exact rfl)
    | ((with_reducible apply and_c); array_get_dec; first | (left; refine ⟨?_, ?_⟩; sizeOf_list_dec; array_get_dec) | (right; refine ⟨?_, ?_⟩; sizeOf_list_dec; exact rfl))
    | ((with_reducible apply or_c); array_get_dec; first | (left; refine ⟨?_, ?_⟩; sizeOf_list_dec; exact rfl) | (right; refine ⟨?_, ?_⟩; sizeOf_list_dec; array_get_dec))
    | ((with_reducible apply andE_c); array_get_dec; array_mem_dec; first | (left; refine ⟨?_, ?_⟩; sizeOf_list_dec; array_get_dec) | (right; refine ⟨?_, ?_⟩; sizeOf_list_dec; exact rfl))
    | ((with_reducible apply orE_c); array_get_dec; array_mem_dec; first | (left; refine ⟨?_, ?_⟩; sizeOf_list_dec; exact rfl) | (right; refine ⟨?_, ?_⟩; sizeOf_list_dec; array_get_dec))
    | ((with_reducible apply chE_t); array_get_dec; array_get_dec; array_mem_dec; array_get_dec; array_mem_dec)
    | ((with_reducible apply chE_f); array_get_dec; array_get_dec; array_mem_dec)
    | ((with_reducible apply ite_c); array_get_dec; first | (left; refine ⟨?_, ?_⟩; sizeOf_list_dec; array_get_dec) | (right; refine ⟨?_, ?_⟩; sizeOf_list_dec; array_get_dec))
    | ((with_reducible apply lc_ev); array_get_dec; assumption)
    | ((with_reducible apply sl_ev); array_get_dec; array_get_dec; array_get_dec; array_mem_dec)
    | with_reducible exact no_ev
    | ((with_reducible apply some_ev); array_get_dec)
    | ((with_reducible apply itR1_z); array_get_dec; omega; omega)
    | ((with_reducible apply itE_ev); array_get_dec; exact rfl)
    | with_reducible exact nx_ev
    | ((with_reducible apply seq_nx); array_get_dec; array_get_dec)
    | ((with_reducible apply seq_rt); array_get_dec)
    | ((with_reducible apply if_c); array_get_dec; first | (left; refine ⟨?_, ?_⟩; sizeOf_list_dec; array_get_dec) | (right; refine ⟨?_, ?_⟩; sizeOf_list_dec; array_get_dec))
    | ((with_reducible apply ret_ev); array_get_dec)
    | ((with_reducible apply set_ev); array_get_dec; exact rfl)
    | ((with_reducible apply expr_ev); array_get_dec)
    | ((with_reducible apply unp_ev); array_get_dec; exact rfl)
    | ((with_reducible apply par_ev); array_get_dec; exact rfl; exact rfl; exact rfl)
    | ((with_reducible apply for_ev); array_get_dec; assumption)
    | ((with_reducible apply put_ev); array_get_dec; array_get_dec; array_get_dec; exact rfl; array_mem_dec))
-- ENDMAC
abbrev B19_1 (call : Call) : Mn.St := (seqS (setS 5 (iteE (tst (op2 eqV (vE 4) (kE (.int 5)))) (kE (.int 30)) (op2 addV (kE (.int 1)) (callH call 8 (asC (vE 1) (asC (kE (.int 1)) (asC (kE (.int 7)) (asN)))))))) (seqS (setS 6 (op2 eqV (callH call 8 (asC (vE 1) (asC (kE (.int 3)) (asC (kE (.int 5)) (asN))))) (kE (.int 2)))) (seqS (setS 7 (callH call 10 (asC (vE 1) (asC (vE 5) (asC (iteE (tst (op2 eqV (vE 4) (kE (.int 5)))) (kE (.int 60)) (callH call 8 (asC (vE 1) (asC (kE (.int 0)) (asC (kE (.int 12)) (asN)))))) (asC (vE 6) (asN))))))) (seqS (ifS (tst (op2 neV (vE 4) (kE (.int 1)))) (forS (itE (callH call 11 (asC (vE 1) (asC (vE 5) (asC (vE 6) (asC (op2 ixV (tupE (asC (kE (.int 0)) (asC (op1 negV (kE (.int 1))) (asC (kE (.int 0)) (asC (kE (.int 1)) (asC (op1 negV (kE (.int 1))) (asC (op1 negV (kE (.int 1))) (asN)))))))) (vE 4)) (asN))))))) (tgV 8) (exprS (meth insertV (vE 7) (asC (callH call 8 (asC (vE 1) (asC (kE (.int 7)) (asC (op2 addV (op1 lenV (vE 7)) (kE (.int 1))) (asN))))) (asC (vE 8) (asN)))))) (nxS)) (ifS (notT (tst (callH call 17 (asC (vE 1) (asC (vE 5) (asC (op1 tupleV (vE 7)) (asC (vE 3) (asN)))))))) (retS (kE (.bl false))) (nxS))))))
abbrev B19_2 (call : Call) : Mn.St := (exprS (meth insertV (vE 7) (asC (callH call 8 (asC (vE 1) (asC (kE (.int 7)) (asC (op2 addV (op1 lenV (vE 7)) (kE (.int 1))) (asN))))) (asC (vE 8) (asN)))))
abbrev S19 (ns : List Int) (e1 : E0) (wide : Bool) (e3 e4 e5 e6 e7 e8 : E0) (h : List O) : Mn.S := ⟨[.w (.scr ns), e1, .w (.d (.bl wide)), e3, e4, e5, e6, e7, e8], h⟩
theorem ins_turn (k : Nat) {i gi li : Nat} {ns : List Int} {wide : Bool} {e3 e4 e5 e6 : E0} {es : List Ed} {e : Ed} {h : List O} (S : Sc i gi li h) (hl : es.length < 900) :
    ∃ (es' : List Ed) (h' : List O), B19_2 (callF fns (k + 1)) (S19 ns (.w (.ref i)) wide e3 e4 e5 e6 (.own (.lst (es.map eW))) (.w (eW e)) h) = .nx (S19 ns (.w (.ref i)) wide e3 e4 e5 e6 (.own (.lst (es'.map eW))) (.w (eW e)) h') ∧ Ld i gi li h h' ∧ es'.length = es.length + 1 ∧ ∀ f, f ∈ es' ↔ f ∈ es ∨ f = e := by
  have hl2 : (es.map eW).length = es.length := List.length_map _
  obtain ⟨r, h', C, ld, r1, r2⟩ := ld_call k (p := 7) (v := 7) (m := ((es.map eW).length : Int) + 1) rfl S (by omega) (by omega) (by omega)
  have hr : r.toNat ≤ es.length := by omega
  refine ⟨es.take r.toNat ++ [e] ++ es.drop r.toNat, h', ?_, ld, ?_, fun f => ?_⟩
  · generalize callF fns (k + 1) = call at *
    apply nx_as
    · array_get_dec
    · rw [List.map_append, List.map_append, List.map_take, List.map_drop]; rfl
  · simp only [List.length_append, List.length_take, List.length_drop, List.length_cons, List.length_nil]
    omega
  · have : f ∈ es ↔ f ∈ es.take r.toNat ∨ f ∈ es.drop r.toNat := by
      rw [← List.mem_append, List.take_append_drop]
    rw [this]
    simp only [List.mem_append, List.mem_singleton]
    constructor
    · rintro ((a | b) | c)
      · exact .inl (.inl a)
      · exact .inr b
      · exact .inl (.inr c)
    · rintro ((a | b) | c)
      · exact .inl (.inl a)
      · exact .inr b
      · exact .inl (.inr c)
theorem ins_loop (k : Nat) {i gi li : Nat} {ns : List Int} {wide : Bool} {e3 e4 e5 e6 e8 : E0} {es rs : List Ed} {h0 h : List O} {kp : Option (Nat × O)} (S : Sc i gi li h) (hl : es.length + rs.length < 900) (hk : ∀ h', Ld i gi li h h' → ∀ ρ, kept ⟨ρ, h'⟩ kp = true) :
    ∃ (es' : List Ed) (h' : List O) (e8' : E0), forL kp (tgV 8) (B19_2 (callF fns (k + 1))) (rs.map eW) (S19 ns (.w (.ref i)) wide e3 e4 e5 e6 (.own (.lst (es.map eW))) e8 h) = .nx (S19 ns (.w (.ref i)) wide e3 e4 e5 e6 (.own (.lst (es'.map eW))) e8' h') ∧ Ld i gi li h h' ∧ es'.length = es.length + rs.length ∧ ∀ f, f ∈ es' ↔ f ∈ es ∨ f ∈ rs := by
  induction rs generalizing es h e8 with
  | nil => exact ⟨es, h, e8, forL_nil (hk h (Ld.refl S) _), Ld.refl S, rfl, fun f => by simp⟩
  | cons e rs ih =>
    simp only [List.length_cons] at hl
    obtain ⟨es1, h1, B, l1, n1, m1⟩ := ins_turn k (ns := ns) (wide := wide) (e3 := e3) (e4 := e4) (e5 := e5) (e6 := e6) (es := es) (e := e) S (by omega)
    obtain ⟨es2, h2, e8', L, l2, n2, m2⟩ := ih (es := es1) (e8 := .w (eW e)) l1.sc (by omega) (fun h' l ρ => hk h' (l1.trans l) ρ)
    refine ⟨es2, h2, e8', forL_cons (hk h (Ld.refl S) _) rfl B L, l1.trans l2, by rw [n2, n1, List.length_cons]; omega, fun f => ?_⟩
    rw [m2, m1, List.mem_cons]
    constructor
    · rintro ((a | b) | c)
      · exact .inl a
      · exact .inr (.inl b)
      · exact .inr (.inr c)
    · rintro (a | b | c)
      · exact .inl (.inl a)
      · exact .inl (.inr b)
      · exact .inr c
/-- where the counts stand -/
def Cnt (i gi li : Nat) (e3 : E0) (h : List O) (c0 c1 : Int) : Prop := e3 = .own (.lst [zW c0, zW c1]) ∨ ∃ ci, e3 = .w (.ref ci) ∧ h[ci]? = some (.lst [zW c0, zW c1]) ∧ ci ≠ i ∧ ci ≠ gi ∧ ci ≠ li
theorem Cnt.gw {i gi li : Nat} {e3 : E0} {h h' : List O} {c0 c1 : Int} (c : Cnt i gi li e3 h c0 c1) (g : Gw i gi li h h') : Cnt i gi li e3 h' c0 c1 := by
  rcases c with c | ⟨ci, e, hc, n1, n2, n3⟩
  · exact .inl c
  · exact .inr ⟨ci, e, by rw [g.oth ci (List.getElem?_eq_some_iff.mp hc).1 n1 n2 n3]; exact hc, n1, n2, n3⟩
def tots : List D := [.int 0, .int (-1), .int 0, .int 1, .int (-1), .int (-1)]
theorem Sc.lt {i gi li : Nat} {h : List O} (S : Sc i gi li h) : i < h.length ∧ gi < h.length ∧ li < h.length := by
  obtain ⟨_, _, _, _, S⟩ := S
  exact ⟨(List.getElem?_eq_some_iff.mp S.at_).1, (List.getElem?_eq_some_iff.mp S.g).1, (List.getElem?_eq_some_iff.mp S.l).1⟩
abbrev T19_5 (call : Call) : Mn.St := (setS 5 (iteE (tst (op2 eqV (vE 4) (kE (.int 5)))) (kE (.int 30)) (op2 addV (kE (.int 1)) (callH call 8 (asC (vE 1) (asC (kE (.int 1)) (asC (kE (.int 7)) (asN))))))))
theorem t5_ev (k : Nat) {i gi li m : Nat} {ns : List Int} {wide : Bool} {e3 e5 e6 e7 e8 : E0} {h : List O} (S : Sc i gi li h) :
    ∃ (n : Nat) (h' : List O), T19_5 (callF fns (k + 1)) (S19 ns (.w (.ref i)) wide e3 (.w (iW m)) e5 e6 e7 e8 h) = .nx (S19 ns (.w (.ref i)) wide e3 (.w (iW m)) (.w (iW n)) e6 e7 e8 h') ∧ Ld i gi li h h' ∧ 1 ≤ n ∧ n ≤ 30 := by
  by_cases q : m = 5
  · refine ⟨30, h, ?_, Ld.refl S, by omega, by omega⟩
    apply nx_as
    · array_get_dec
    · rfl
  · obtain ⟨r, h', C, ld, r1, r2⟩ := ld_call k (p := 1) (v := 1) (m := 7) rfl S (by omega) (by omega) (by omega)
    obtain ⟨n, rfl⟩ := Int.eq_ofNat_of_zero_le r1
    refine ⟨1 + n, h', ?_, ld, by omega, by omega⟩
    generalize callF fns (k + 1) = call at *
    apply nx_as
    · array_get_dec
    · rfl
abbrev T19_7 (call : Call) : Mn.St := (setS 7 (callH call 10 (asC (vE 1) (asC (vE 5) (asC (iteE (tst (op2 eqV (vE 4) (kE (.int 5)))) (kE (.int 60)) (callH call 8 (asC (vE 1) (asC (kE (.int 0)) (asC (kE (.int 12)) (asN)))))) (asC (vE 6) (asN)))))))
theorem t7_ev (k : Nat) {i gi li m n : Nat} {great : Bool} {ns : List Int} {wide : Bool} {e3 e7 e8 : E0} {h : List O} (S : Sc i gi li h) (h1 : 1 ≤ n) (h2 : n ≤ 30) :
    ∃ (es : List Ed) (h' : List O), T19_7 (callF fns (k + 3)) (S19 ns (.w (.ref i)) wide e3 (.w (iW m)) (.w (iW n)) (.w (.d (.bl great))) e7 e8 h) = .nx (S19 ns (.w (.ref i)) wide e3 (.w (iW m)) (.w (iW n)) (.w (.d (.bl great))) (.own (.lst (es.map eW))) e8 h') ∧ Ld i gi li h h' ∧ Ok n es ∧ es.length ≤ 60 ∧ (∃ p, Pot es p) ∧ ∀ e ∈ es, -(4 * big) ≤ e.2.2 ∧ e.2.2 ≤ 4 * big := by
  by_cases q : m = 5
  · obtain ⟨es, h', C, ld, ok, len, pot, bd⟩ := edges_sp k (n := n) (rows := 60) (great := great) S h1 (by omega) (by omega)
    refine ⟨es, h', ?_, ld, ok, by omega, pot, bd⟩
    generalize callF fns (k + 3) = call at *
    apply nx_as
    · array_get_dec
    · rfl
  · obtain ⟨r, ha, Ca, la, r1, r2⟩ := ld_call (k + 2) (p := 0) (v := 0) (m := 12) rfl S (by omega) (by omega) (by omega)
    obtain ⟨rows, rfl⟩ := Int.eq_ofNat_of_zero_le r1
    obtain ⟨es, h', C, ld, ok, len, pot, bd⟩ := edges_sp k (n := n) (rows := rows) (great := great) la.sc h1 (by omega) (by omega)
    refine ⟨es, h', ?_, la.trans ld, ok, by omega, pot, bd⟩
    generalize callF fns (k + 3) = call at *
    apply nx_as
    · array_get_dec
    · rfl
abbrev T19_r (call : Call) : Mn.St := (ifS (tst (op2 neV (vE 4) (kE (.int 1)))) (forS (itE (callH call 11 (asC (vE 1) (asC (vE 5) (asC (vE 6) (asC (op2 ixV (tupE (asC (kE (.int 0)) (asC (op1 negV (kE (.int 1))) (asC (kE (.int 0)) (asC (kE (.int 1)) (asC (op1 negV (kE (.int 1))) (asC (op1 negV (kE (.int 1))) (asN)))))))) (vE 4)) (asN))))))) (tgV 8) (exprS (meth insertV (vE 7) (asC (callH call 8 (asC (vE 1) (asC (kE (.int 7)) (asC (op2 addV (op1 lenV (vE 7)) (kE (.int 1))) (asN))))) (asC (vE 8) (asN)))))) (nxS))
theorem tr_ev (k : Nat) {i gi li m n : Nat} {great : Bool} {ns : List Int} {wide : Bool} {es : List Ed} {e3 e8 : E0} {h : List O} (S : Sc i gi li h) (hm : m < 6) (h1 : 1 ≤ n) (h2 : n ≤ 30) (ok : Ok n es) (len : es.length ≤ 60) (pot : ∃ p, Pot es p) (bd : ∀ e ∈ es, -(4 * big) ≤ e.2.2 ∧ e.2.2 ≤ 4 * big) :
    ∃ (es' : List Ed) (h' : List O) (e8' : E0), T19_r (callF fns (k + 3)) (S19 ns (.w (.ref i)) wide e3 (.w (iW m)) (.w (iW n)) (.w (.d (.bl great))) (.own (.lst (es.map eW))) e8 h) = .nx (S19 ns (.w (.ref i)) wide e3 (.w (iW m)) (.w (iW n)) (.w (.d (.bl great))) (.own (.lst (es'.map eW))) e8' h') ∧ Gw i gi li h h' ∧ Ok n es' ∧ es'.length ≤ 100 ∧ (m = 1 → ∃ p, Pot es' p) ∧ (m = 4 → ∀ p, ¬Pot es' p) ∧ ∀ e ∈ es', -(1000 * big) ≤ e.2.2 ∧ e.2.2 ≤ 1000 * big := by
  by_cases q : m = 1
  · refine ⟨es, h, e8, ?_, Gw.refl S, ok, by omega, fun _ => pot, fun z => by omega, fun e he => ?_⟩
    · apply nx_as
      · array_get_dec
      · rfl
    · have := bd e he
      unfold big at *
      omega
  · obtain ⟨tot, xt, t1, t2, t3⟩ : ∃ tot : Int, [D.int 0, .int (-1), .int 0, .int 1, .int (-1), .int (-1)][m]? = some (.int tot) ∧ -big ≤ tot ∧ tot ≤ big ∧ (m = 4 → tot < 0) := by
      have : m = 0 ∨ m = 1 ∨ m = 2 ∨ m = 3 ∨ m = 4 ∨ m = 5 := by omega
      rcases this with rfl | rfl | rfl | rfl | rfl | rfl
      · exact ⟨_, rfl, by decide, by decide, fun z => by omega⟩
      · exact ⟨_, rfl, by decide, by decide, fun z => by omega⟩
      · exact ⟨_, rfl, by decide, by decide, fun z => by omega⟩
      · exact ⟨_, rfl, by decide, by decide, fun z => by omega⟩
      · exact ⟨_, rfl, by decide, by decide, fun z => by decide⟩
      · exact ⟨_, rfl, by decide, by decide, fun z => by omega⟩
    obtain ⟨rs, ha, C, ld, ro, rl, rp, rb⟩ := round_sp k (n := n) (great := great) (total := tot) S h1 (by omega) ⟨t1, t2⟩
    have g1 := Sc.app ld.sc [.lst (rs.map eW)]
    have lt := Sc.lt ld.sc
    obtain ⟨es', h', e8', L, l2, n2, m2⟩ := ins_loop (k + 2) (ns := ns) (wide := wide) (e3 := e3) (e4 := .w (iW m)) (e5 := .w (iW n)) (e6 := .w (.d (.bl great))) (e8 := e8) (es := es) (rs := rs) (h0 := h) (kp := some (ha.length, .lst (rs.map eW))) g1.sc (by omega) (fun h' l ρ => decide_eq_true (by
      show h'[ha.length]? = _
      rw [l.oth _ (by omega) (by omega) (by omega)]; simp))
    refine ⟨es', h', e8', ?_, (ld.gw.trans g1).trans l2.gw, fun e he => ?_, by omega, fun z => absurd z q, fun z p hp => ?_, fun e he => ?_⟩
    · generalize callF fns (k + 3) = call at *
      apply nx_as
      · apply if_c
        · array_get_dec
        · left
          refine ⟨?_, ?_⟩
          · sizeOf_list_dec
          · apply for_ev
            · apply itE_ev
              · array_get_dec
              · exact rfl
            · exact L
      · rfl
    · rcases (m2 e).mp he with a | a
      · exact ok e a
      · exact ro e a
    · have := rp p fun e he => hp e ((m2 e).mpr (.inr he))
      have := t3 z
      omega
    · rcases (m2 e).mp he with a | a
      · have := bd e a
        unfold big at *
        omega
      · exact rb e a
abbrev T19_a (call : Call) : Mn.St := (ifS (notT (tst (callH call 17 (asC (vE 1) (asC (vE 5) (asC (op1 tupleV (vE 7)) (asC (vE 3) (asN)))))))) (retS (kE (.bl false))) (nxS))
theorem tup_own {s : Mn.S} {i : Nat} {es : List Ed} (e : s.ρ[i]? = some (.own (.lst (es.map eW)))) : tupleV s (.slot i) = some (.w (eT es)) := by
  have e1 : objR s (.slot i) = some (.lst (es.map eW)) := by
    unfold objR locR; simp only [e, getO]
  show (seqR s (.slot i)).map (fun p => R.w (mkTup p.2)) = _
  have e2 : seqR s (.slot i) = some (true, es.map eW) := by
    show (match objR s (.slot i) with
      | some (.lst ws) => some (true, ws)
      | _ => none) = _
    rw [e1]
  rw [e2]
  show some (R.w (mkTup (es.map eW))) = _
  rw [show es.map eW = (es.map eD).map W.d by rw [List.map_map]; rfl, mkTup_map]
  rfl
theorem ta_ev (k : Nat) {i gi li m n : Nat} {great : Bool} {ns : List Int} {wide : Bool} {es : List Ed} {e3 e8 : E0} {h : List O} {c0 c1 : Int} (S : Sc i gi li h) (h1 : 1 ≤ n) (h2 : n ≤ 30) (ok : Ok n es) (len : es.length ≤ 100) (bd : ∀ e ∈ es, -(1000 * big) ≤ e.2.2 ∧ e.2.2 ≤ 1000 * big) (hc : Cnt i gi li e3 h c0 c1) :
    ∃ (e3' : E0) (h' : List O) (d0 d1 : Int), T19_a (callF fns (k + 3)) (S19 ns (.w (.ref i)) wide e3 (.w (iW m)) (.w (iW n)) (.w (.d (.bl great))) (.own (.lst (es.map eW))) e8 h) = .nx (S19 ns (.w (.ref i)) wide e3' (.w (iW m)) (.w (iW n)) (.w (.d (.bl great))) (.own (.lst (es.map eW))) e8 h') ∧ Sc i gi li h' ∧ Cnt i gi li e3' h' d0 d1 ∧ (((∃ p, Pot es p) ∧ d0 = c0 + 1 ∧ d1 = c1) ∨ ((∀ p, ¬Pot es p) ∧ d0 = c0 ∧ d1 = c1 + 1)) := by
  have key : ∀ (ci : Nat) (h : List O), Sc i gi li h → h[ci]? = some (.lst [zW c0, zW c1]) → ci ≠ i → ci ≠ gi → ci ≠ li → ∃ (h' : List O) (d0 d1 : Int), callF fns (k + 3) 17 [.ref i, iW n, eT es, .ref ci] h = .ok (bR true) h' ∧ Sc i gi li h' ∧ h'[ci]? = some (.lst [zW d0, zW d1]) ∧ (((∃ p, Pot es p) ∧ d0 = c0 + 1 ∧ d1 = c1) ∨ ((∀ p, ¬Pot es p) ∧ d0 = c0 ∧ d1 = c1 + 1)) := fun ci h S hc n1 n2 n3 => by
    by_cases q : ∃ p, Pot es p
    · obtain ⟨p, hp⟩ := q
      obtain ⟨h', C, S', c'⟩ := asked_yes k (M := 1000 * big) ok bd (Int.le_refl _) (by decide) (by omega) h1 (by omega) hp S n1 n2 n3 hc
      exact ⟨h', _, _, C, S', c', .inl ⟨⟨p, hp⟩, rfl, rfl⟩⟩
    · have q : ∀ p, ¬Pot es p := fun p hp => q ⟨p, hp⟩
      obtain ⟨h', C, S', c'⟩ := asked_no k ok (by omega) h1 (by omega) q S n1 n2 n3 hc
      exact ⟨h', _, _, C, S', c', .inr ⟨q, rfl, rfl⟩⟩
  have tu : ∀ (h : List O), op1 tupleV (vE 7) (S19 ns (.w (.ref i)) wide e3 (.w (iW m)) (.w (iW n)) (.w (.d (.bl great))) (.own (.lst (es.map eW))) e8 h) = .ok (.w (eT es)) (S19 ns (.w (.ref i)) wide e3 (.w (iW m)) (.w (iW n)) (.w (.d (.bl great))) (.own (.lst (es.map eW))) e8 h) := fun h => op1_ev rfl (tup_own rfl)
  rcases hc with rfl | ⟨ci, rfl, hc, n1, n2, n3⟩
  · have g := Sc.app S [.lst [zW c0, zW c1]]
    have lt := Sc.lt S
    obtain ⟨h', d0, d1, C, S', hd, cs⟩ := key h.length (h ++ [.lst [zW c0, zW c1]]) g.sc (by simp) (by omega) (by omega) (by omega)
    refine ⟨.w (.ref h.length), h', d0, d1, ?_, S', .inr ⟨_, rfl, hd, by omega, by omega, by omega⟩, cs⟩
    clear key
    generalize callF fns (k + 3) = call at *
    apply nx_as
    · apply if_c
      · apply notT_eq
        · apply tst_b
          apply callH_ev
          · apply asC_ev
            array_get_dec
            apply asC_ev
            array_get_dec
            apply asC_ev
            exact tu _
            array_get_dec
          · exact rfl
          · apply callV_q
            exact rfl
            exact C
        · exact rfl
      · right
        exact ⟨rfl, rfl⟩
    · rfl
  · obtain ⟨h', d0, d1, C, S', hd, cs⟩ := key ci h S hc n1 n2 n3
    refine ⟨.w (.ref ci), h', d0, d1, ?_, S', .inr ⟨_, rfl, hd, n1, n2, n3⟩, cs⟩
    clear key
    generalize callF fns (k + 3) = call at *
    apply nx_as
    · apply if_c
      · apply notT_eq
        · apply tst_b
          apply callH_ev
          · apply asC_ev
            array_get_dec
            apply asC_ev
            array_get_dec
            apply asC_ev
            exact tu _
            array_get_dec
          · exact rfl
          · apply callV_q
            exact rfl
            exact C
        · exact rfl
      · right
        exact ⟨rfl, rfl⟩
    · rfl
end HeadT

set_option linter.all false
set_option maxRecDepth 100000
set_option maxHeartbeats 2000000
namespace HeadT
open Mn BF
-- MAC
local macro_rules
  | `(tactic| sizeOf_list_dec) => `(tactic| first | exact rfl | with_reducible assumption | exact decide_eq_true (by omega) | exact decide_eq_false (by omega) | (rw [Bool.not_eq_true']; exact decide_eq_false (by omega)) | (rw [Bool.not_eq_false']; exact decide_eq_true (by omega)) | (simp (config := { decide := true }) only [*, decide_true, decide_false, Bool.not_true, Bool.not_false]; done))
local macro_rules
  | `(tactic| array_mem_dec) => `(tactic| first
    | ((with_reducible apply mul_v); omega)
    | ((with_reducible apply mul_one); omega)
    | ((with_reducible apply mul_tup); omega)
    | with_reducible exact tup_map
    | with_reducible exact eqV_int
    | with_reducible exact neV_int
    | ((with_reducible apply ins_slot); exact rfl; ((show (_ : Nat) < 16777216); (try simp only [List.length_map, List.length_append, List.length_cons, List.length_nil]); omega); omega; omega)
    | ((with_reducible apply str_v); assumption)
    | ((with_reducible apply isi_ref); assumption)
    | ((with_reducible apply add_tup); (try simp only [List.length_map, List.length_append, List.length_replicate, List.length_cons, List.length_nil]); omega)
    | ((with_reducible apply mod_v); omega)
    | ((with_reducible apply div_v) <;> omega)
    | ((with_reducible apply app_slot); exact rfl; (show (_ : Nat) < 16777216); (try simp only [List.length_map, List.length_append, List.length_cons, List.length_nil]); omega)
    | ((with_reducible apply pop_slot); exact rfl; omega; omega; first | assumption | exact rfl)
    | ((with_reducible apply putz_own); exact rfl; omega; (try simp only [List.length_set, List.length_map, List.length_append, List.length_replicate, List.length_cons, List.length_nil]); omega)
    | ((with_reducible apply putz_ref); assumption; omega; (try simp only [List.length_set, List.length_map, List.length_append, List.length_replicate, List.length_cons, List.length_nil]); omega)
    | ((with_reducible apply ixz_own); exact rfl; omega; first | assumption | exact rfl)
    | ((with_reducible apply ixz_tup); omega; first | assumption | exact rfl)
    | ((with_reducible apply ixz_ref); assumption; omega; first | assumption | exact rfl)
    | exact rfl
    | assumption)
local macro_rules
  | `(tactic| array_get_dec) => `(tactic| first
    | with_reducible exact kE_ev
    | ((with_reducible apply vE_w); exact rfl)
    | ((with_reducible apply vE_o); exact rfl)
    | ((with_reducible apply op2_ev); array_get_dec; array_get_dec; array_mem_dec)
    | ((with_reducible apply op1_ev); array_get_dec; array_mem_dec)
    | with_reducible exact asN_ev
    | ((with_reducible apply asC_ev); array_get_dec; array_get_dec)
    | ((with_reducible apply tupD_ev); array_get_dec; exact rfl; exact rfl; (show (_ : Nat) ≤ 16777216); simp)
    | ((with_reducible apply tup_ev); array_get_dec; exact rfl; (show (_ : Nat) ≤ 16777216); simp)
    | ((with_reducible apply lst_ev); array_get_dec; exact rfl; (show (_ : Nat) ≤ 16777216); simp)
    | ((with_reducible apply callH_ev); array_get_dec; exact rfl; first | (apply callV_p; exact rfl; assumption; exact rfl) | (apply callV_q; exact rfl; assumption))
    | ((with_reducible apply callE_q); array_get_dec; exact rfl; assumption)
    | ((with_reducible apply meth_ev); array_get_dec; (first | exact rfl | exact isl_ref (by assumption)); array_get_dec; array_mem_dec)
    | ((with_reducible apply tst_eq); array_get_dec; array_mem_dec; exact rfl)
    | ((with_reducible apply notT_eq); array_get_dec; exact rfl)
    | ((with_reducible apply and_c); array_get_dec; first | (left; refine ⟨?_, ?_⟩; sizeOf_list_dec; array_get_dec) | (right; refine ⟨?_, ?_⟩; sizeOf_list_dec; exact rfl))
    | ((with_reducible apply or_c); array_get_dec; first | (left; refine ⟨?_, ?_⟩; sizeOf_list_dec; exact rfl) | (right; refine ⟨?_, ?_⟩; sizeOf_list_dec; array_get_dec))
    | ((with_reducible apply andE_c); array_get_dec; array_mem_dec; first | (left; refine ⟨?_, ?_⟩; sizeOf_list_dec; array_get_dec) | (right; refine ⟨?_, ?_⟩; sizeOf_list_dec; exact rfl))
    | ((with_reducible apply orE_c); array_get_dec; array_mem_dec; first | (left; refine ⟨?_, ?_⟩; sizeOf_list_dec; exact rfl) | (right; refine ⟨?_, ?_⟩; sizeOf_list_dec; array_get_dec))
    | ((with_reducible apply chE_t); array_get_dec; array_get_dec; array_mem_dec; array_get_dec; array_mem_dec)
    | ((with_reducible apply chE_f); array_get_dec; array_get_dec; array_mem_dec)
    | ((with_reducible apply ite_c); array_get_dec; first | (left; refine ⟨?_, ?_⟩; sizeOf_list_dec; array_get_dec) | (right; refine ⟨?_, ?_⟩; sizeOf_list_dec; array_get_dec))
    | ((with_reducible apply lc_ev); array_get_dec; assumption)
    | ((with_reducible apply sl_ev); array_get_dec; array_get_dec; array_get_dec; array_mem_dec)
    | with_reducible exact no_ev
    | ((with_reducible apply some_ev); array_get_dec)
    | ((with_reducible apply itR1_z); array_get_dec; omega; omega)
    | ((with_reducible apply itE_ev); array_get_dec; exact rfl)
    | with_reducible exact nx_ev
    | ((with_reducible apply seq_nx); array_get_dec; array_get_dec)
    | ((with_reducible apply seq_rt); array_get_dec)
    | ((with_reducible apply if_c); array_get_dec; first | (left; refine ⟨?_, ?_⟩; sizeOf_list_dec; array_get_dec) | (right; refine ⟨?_, ?_⟩; sizeOf_list_dec; array_get_dec))
    | ((with_reducible apply ret_ev); array_get_dec)
    | ((with_reducible apply set_ev); array_get_dec; exact rfl)
    | ((with_reducible apply expr_ev); array_get_dec)
    | ((with_reducible apply unp_ev); array_get_dec; exact rfl)
    | ((with_reducible apply par_ev); array_get_dec; exact rfl; exact rfl; exact rfl)
    | ((with_reducible apply for_ev); array_get_dec; assumption)
    | ((with_reducible apply put_ev); array_get_dec; array_get_dec; array_get_dec; exact rfl; array_mem_dec))
-- ENDMAC
theorem lap_ev (k : Nat) {i gi li m : Nat} {ns : List Int} {wide : Bool} {e3 e5 e6 e7 e8 : E0} {h : List O} {c0 c1 : Int} (S : Sc i gi li h) (hm : m < 6) (hc : Cnt i gi li e3 h c0 c1) :
    ∃ (e3' e5' e6' e7' e8' : E0) (h' : List O) (d0 d1 : Int), B19_1 (callF fns (k + 3)) (S19 ns (.w (.ref i)) wide e3 (.w (iW m)) e5 e6 e7 e8 h) = .nx (S19 ns (.w (.ref i)) wide e3' (.w (iW m)) e5' e6' e7' e8' h') ∧ Sc i gi li h' ∧ Cnt i gi li e3' h' d0 d1 ∧ c0 ≤ d0 ∧ c1 ≤ d1 ∧ (m = 1 → c0 < d0) ∧ (m = 4 → c1 < d1) := by
  obtain ⟨n, ha, L5, la, n1, n2⟩ := t5_ev (k + 2) (m := m) (ns := ns) (wide := wide) (e3 := e3) (e5 := e5) (e6 := e6) (e7 := e7) (e8 := e8) S
  obtain ⟨r, hb, Cb, lb, r1, r2⟩ := ld_call (k + 2) (p := 3) (v := 3) (m := 5) rfl la.sc (by omega) (by omega) (by omega)
  have L6 : setS 6 (op2 eqV (callH (callF fns (k + 3)) 8 (asC (vE 1) (asC (kE (.int 3)) (asC (kE (.int 5)) (asN))))) (kE (.int 2))) (S19 ns (.w (.ref i)) wide e3 (.w (iW m)) (.w (iW n)) e6 e7 e8 ha) = .nx (S19 ns (.w (.ref i)) wide e3 (.w (iW m)) (.w (iW n)) (.w (.d (.bl (decide (r = 2))))) e7 e8 hb) := by
    clear L5
    generalize callF fns (k + 3) = call at *
    apply nx_as
    · array_get_dec
    · rfl
  obtain ⟨es, hd, L7, ld, ok, len, pot, bd⟩ := t7_ev k (m := m) (n := n) (great := decide (r = 2)) (ns := ns) (wide := wide) (e3 := e3) (e7 := e7) (e8 := e8) lb.sc n1 n2
  obtain ⟨es', he, e8', L8, gw, ok', len', p1, p4, bd'⟩ := tr_ev k (m := m) (n := n) (great := decide (r = 2)) (ns := ns) (wide := wide) (es := es) (e3 := e3) (e8 := e8) ld.sc hm n1 n2 ok len pot bd
  have hc' := hc.gw (((la.trans lb).trans ld).gw.trans gw)
  obtain ⟨e3', hf, d0, d1, L9, S', c', cs⟩ := ta_ev k (m := m) (n := n) (great := decide (r = 2)) (ns := ns) (wide := wide) (es := es') (e3 := e3) (e8 := e8') gw.sc n1 n2 ok' len' bd' hc'
  refine ⟨e3', _, _, _, e8', hf, d0, d1, seq_nx L5 (seq_nx L6 (seq_nx L7 (seq_nx L8 L9))), S', c', ?_⟩
  rcases cs with ⟨q, a, b⟩ | ⟨q, a, b⟩
  · exact ⟨by omega, by omega, fun _ => by omega, fun z => by
      obtain ⟨p, hp⟩ := q
      exact absurd hp (p4 z p)⟩
  · exact ⟨by omega, by omega, fun z => by
      obtain ⟨p, hp⟩ := p1 z
      exact absurd hp (q p), fun _ => by omega⟩
def I19 (i gi li : Nat) (ns : List Int) (wide : Bool) (m : Nat) (s : Mn.S) : Prop :=
  ∃ (e3 e4 e5 e6 e7 e8 : E0) (h : List O) (c0 c1 : Int), s = S19 ns (.w (.ref i)) wide e3 e4 e5 e6 e7 e8 h ∧ Sc i gi li h ∧ Cnt i gi li e3 h c0 c1 ∧ 0 ≤ c0 ∧ 0 ≤ c1 ∧ (2 ≤ m → 0 < c0) ∧ (5 ≤ m → 0 < c1)
def isOkT : Res2 → Bool
  | .ok (.w (.d (.bl true))) _ => true
  | _ => false
theorem hand_ok : ∃ h, callF fns 39 18 [] [] = .ok (bR true) h := by
  have : isOkT (callF fns 39 18 [] []) = true := by decide +kernel
  generalize callF fns 39 18 [] [] = r at this
  match r, this with
  | .ok (.w (.d (.bl true))) h, _ => exact ⟨h, rfl⟩
def LawSays' : Prop := ∀ ns : List Int, ns.length ≤ 63 → ∃ h, callF fns 40 19 [.scr ns] [] = .ok (bR true) h
theorem law_ok : LawSays' := fun ns _ => by
  obtain ⟨great, leans, mixed, h, C7, h3, g1, g2, gl, ll⟩ := scale_sp 38 ns
  obtain ⟨o0, o1, o2, rfl⟩ : ∃ o0 o1 o2, h = [o0, o1, o2] := by
    match h, h3 with
    | [a, b, c], _ => exact ⟨a, b, c, rfl⟩
  have S0 : Sc 3 1 2 ([o0, o1, o2] ++ [.lst [.ref 1, zW mixed, zW 4, .ref 2]]) := by
    refine ⟨great, mixed, 4, leans, ?_, ?_, ?_, by decide, by decide, by decide, ll, gl⟩
    · rfl
    · exact g1
    · exact g2
  obtain ⟨r, ha, Ca, la, r1, r2⟩ := ld_call 38 (p := 2) (v := 2) (m := 7) rfl S0 (by omega) (by omega) (by omega)
  obtain ⟨h18, C18⟩ := hand_ok
  have L : ∀ N, N ≤ 6 → ∃ s', forL none (tgV 4) (B19_1 (callF fns 39)) ((List.range N).map iW) (S19 ns (.w (.ref 3)) (decide (r = 3)) (.own (.lst [zW 0, zW 0])) .un .un .un .un .un ha) = .nx s' ∧ I19 3 1 2 ns (decide (r = 3)) (0 + ((List.range N).map iW).length) s' := fun N hN => by
    refine forL_inv (I := I19 3 1 2 ns (decide (r = 3))) _ 0 (fun _ _ _ => rfl) (fun m s w hw hI => ?_) ⟨_, _, _, _, _, _, ha, 0, 0, rfl, la.sc, .inl rfl, by omega, by omega, fun z => by omega, fun z => by omega⟩
    rw [Nat.zero_add] at hI
    obtain ⟨e3, e4, e5, e6, e7, e8, h, c0, c1, rfl, S, cn, z0, z1, y0, y1⟩ := hI
    have hm' := (List.getElem?_eq_some_iff.mp hw).1
    rw [List.length_map, List.length_range] at hm'
    have ew : w = iW m := by
      rw [List.getElem?_map, List.getElem?_eq_getElem (by rw [List.length_range]; exact hm')] at hw
      simpa using hw.symm
    subst ew
    obtain ⟨e3', e5', e6', e7', e8', h', d0, d1, B, S', cn', q0, q1, p1, p4⟩ := lap_ev 36 (m := m) (ns := ns) (wide := decide (r = 3)) (e5 := e5) (e6 := e6) (e7 := e7) (e8 := e8) S (by omega) cn
    refine ⟨_, _, rfl, B, e3', _, e5', e6', e7', e8', h', d0, d1, rfl, S', cn', by omega, by omega, fun z => ?_, fun z => ?_⟩
    · by_cases q : m = 1
      · have := p1 q; omega
      · have := y0 (by omega); omega
    · by_cases q : m = 4
      · have := p4 q; omega
      · have := y1 (by omega); omega
  have fin : ∀ N, 5 ≤ N → N ≤ 6 → N = (5 + (if decide (r = 3) = true then 1 else 0 : Int)).toNat → ∃ h, callF fns 40 19 [.scr ns] [] = .ok (bR true) h := fun N h5 h6 hN => by
    obtain ⟨s', LL, e3, e4, e5, e6, e7, e8, hz, c0, c1, rfl, S, cn, z0, z1, y0, y1⟩ := L N h6
    rw [List.length_map, List.length_range, Nat.zero_add] at y0 y1
    have y0 := y0 (by omega)
    have y1 := y1 h5
    refine ⟨hz, ?_⟩
    apply call_ex (B := B19) (ρ := [.w (.scr ns), .un, .un, .un, .un, .un, .un, .un, .un]) rfl rfl rfl
    have C18 : callF fns 39 18 [] [] = .ok (bR true) h18 := C18
    clear L
    generalize callF fns 39 = call at *
    have R : (retS (andE (op2 gtV (op2 ixV (vE 3) (kE (.int 0))) (kE (.int 0))) (op2 gtV (op2 ixV (vE 3) (kE (.int 1))) (kE (.int 0))))) (S19 ns (.w (.ref 3)) (decide (r = 3)) e3 e4 e5 e6 e7 e8 hz) = .rt (bR true) (S19 ns (.w (.ref 3)) (decide (r = 3)) e3 e4 e5 e6 e7 e8 hz) := by
      have k0 : decide (0 < c0) = true := decide_eq_true y0
      have k1 : decide (0 < c1) = true := decide_eq_true y1
      rcases cn with rfl | ⟨ci, rfl, hc, _⟩
      · apply ret_ev
        apply andE_t (x := bR (decide (0 < c0)))
        · array_get_dec
        · rw [k0]; rfl
        · rw [← k1]; array_get_dec
      · apply ret_ev
        apply andE_t (x := bR (decide (0 < c0)))
        · array_get_dec
        · rw [k0]; rfl
        · rw [← k1]; array_get_dec
    refine ⟨bR true, S19 ns (.w (.ref 3)) (decide (r = 3)) e3 e4 e5 e6 e7 e8 hz, ?_, rfl⟩
    unfold B19
    apply seq_nx
    · array_get_dec
    apply seq_nx
    · apply set_ev
      · apply op2_ev
        · apply callH_ev
          · array_get_dec
          · exact rfl
          · apply callV_q
            · exact rfl
            · exact Ca
        · array_get_dec
        · array_mem_dec
      · exact rfl
    apply seq_nx
    · apply if_c
      · apply notT_eq
        · apply tst_b
          apply callH_ev
          · array_get_dec
          · exact rfl
          · apply callV_p
            · exact rfl
            · exact C18
            · exact rfl
        · exact rfl
      · right
        exact ⟨rfl, rfl⟩
    apply seq_nx
    · array_get_dec
    refine seq_nx ?_ R
    apply for_ev
    · apply itR1_z
      · array_get_dec
      · split <;> omega
      · split <;> omega
    · rw [← hN]
      exact LL
  by_cases q : r = 3
  · exact fin 6 (by omega) (by omega) (by rw [decide_eq_true q]; rfl)
  · exact fin 5 (by omega) (by omega) (by rw [decide_eq_false q]; rfl)
end HeadT

section
set_option Elab.async false
set_option linter.all false
set_option maxRecDepth 100000
/-! MnSim: when a state of the small semantics stands for the layer's slots and heap. -/
namespace Mn
open PySem PySem.Spec PyProof.Rows L2

/-- the written part, the classes' addresses, the fields' names -/
structure Pr where
  ca : Nat → Addr
  fn : Nat → PySem.Str

abbrev sig (s : List Nat) : PySem.Str := ⟨s.toArray⟩
mutual
inductive RepD (K : PySem.W.Frag) (H : Hp) : D → V → Prop
  | non : RepD K H .non .non
  | bl (b : Bool) : RepD K H (.bl b) (.bl b)
  | int (i : Int) : RepD K H (.int i) (.int i)
  | str (s : List Nat) : (∀ c ∈ s, c < 0x110000) → RepD K H (.str s) (.str (sig s))
  | tup {a : Addr} {vs : List V} {ds : List D} : SqT K H a vs → RepDs K H ds vs → RepD K H (.tup ds) (.ref a)
inductive RepDs (K : PySem.W.Frag) (H : Hp) : List D → List V → Prop
  | nil : RepDs K H [] []
  | cons {d : D} {v : V} {ds : List D} {vs : List V} : RepD K H d v → RepDs K H ds vs → RepDs K H (d :: ds) (v :: vs)
end
/-- a list that stays as it is -/
def FzL (K : PySem.W.Frag) (H : Hp) (a : Addr) (xs : List V) : Prop := (∃ o, H a = some (.frz o (.lst xs))) ∨
  ∃ (o : Obj) (its : Array Value) (n : Nat), K.lookup a = some o ∧ o.cls = .type "list" ∧ o.dict = none ∧ o.data = .seq its n ∧ its.size ≤ sizeLine ∧ Vals xs its.toList
theorem FzL.sq {K : PySem.W.Frag} {H : Hp} {a : Addr} {xs : List V} (h : FzL K H a xs) : SqL K H a xs := h.elim (fun h => .inl (.inr h)) .inr
mutual
inductive SimW (K : PySem.W.Frag) (μ : List Addr) (H : Hp) : W → V → Prop
  | d {x : D} {v : V} : RepD K H x v → SimW K μ H (.d x) v
  | ref {i : Nat} {a : Addr} : μ[i]? = some a → SimW K μ H (.ref i) (.ref a)
  | tup {a : Addr} {vs : List V} {ws : List W} : SqT K H a vs → SimWs K μ H ws vs → SimW K μ H (.tup ws) (.ref a)
  | scr {a : Addr} {ns : List Int} : FzL K H a (ns.map V.int) → SimW K μ H (.scr ns) (.ref a)
inductive SimWs (K : PySem.W.Frag) (μ : List Addr) (H : Hp) : List W → List V → Prop
  | nil : SimWs K μ H [] []
  | cons {w : W} {v : V} {ws : List W} {vs : List V} : SimW K μ H w v → SimWs K μ H ws vs → SimWs K μ H (w :: ws) (v :: vs)
end
def keyD : D → Option Key
  | .int i => some (.inl i)
  | .str s => some (.inr (sig s))
  | _ => none
def SimF (P : Pr) (K : PySem.W.Frag) (μ : List Addr) (H : Hp) : List (Nat × W) → List (PySem.Str × V) → Prop :=
  Paired fun p q => P.fn p.1 = q.1 ∧ SimW K μ H p.2 q.2
def SimK (K : PySem.W.Frag) (μ : List Addr) (H : Hp) : List (D × W) → List (Key × V) → Prop :=
  Paired fun p q => keyD p.1 = some q.1 ∧ SimW K μ H p.2 q.2 ∧ RepD K H p.1 (kV q.1)
def SimO (P : Pr) (K : PySem.W.Frag) (μ : List Addr) (H : Hp) : O → Addr → Prop
  | .lst ws, a => ∃ vs, H a = some (.lst vs) ∧ SimWs K μ H ws vs
  | .dct false kvs, a => ∃ kvs', H a = some (.dK kvs') ∧ SimK K μ H kvs kvs'
  | .dct true kvs, a => ∃ kvs' o, H a = some (.frz o (.dK kvs')) ∧ SimK K μ H kvs kvs'
  | .ins c fs, a => ∃ dx fs', H a = some (.ins (P.ca c) dx fs') ∧ H dx = some (.own a) ∧ SimF P K μ H fs fs'
def SimE (P : Pr) (K : PySem.W.Frag) (μ : List Addr) (H : Hp) : E0 → Option V → Prop
  | .un, _ => True
  | .w x, some v => SimW K μ H x v
  | .own o, some (.ref a) => SimO P K μ H o a
  | _, _ => False
/-- slot i owns what stands at a -/
def Owns (s : S) (σ : L2.St) (i : Nat) (a : Addr) : Prop := (∃ o, s.ρ[i]? = some (.own o)) ∧ σ[i]? = some (some (V.ref a))
def E0.obj : E0 → Bool
  | .own _ => true
  | .w (.ref _) => true
  | _ => false
structure Sim (P : Pr) (K : PySem.W.Frag) (μ : List Addr) (s : S) (σ : L2.St) (H : Hp) : Prop where
  heap : Paired (SimO P K μ H) s.h μ
  env : Paired (SimE P K μ H) s.ρ σ
  nd : μ.Nodup
  apart : ∀ i a, Owns s σ i a → a ∉ μ
  inj : ∀ i j a, Owns s σ i a → Owns s σ j a → i = j
/-- the footprint -/
def foot (μ : List Addr) (s : S) (σ : L2.St) (a : Addr) : Prop := a ∈ μ ∨ ∃ i, Owns s σ i a
structure Step (M : Addr → Prop) (H : Hp) (M' : Addr → Prop) (H' : Hp) : Prop where
  keep : ∀ a o, H a = some o → ¬ M a → H' a = some o
  new : ∀ a, M' a → M a ∨ H a = none
  live : ∀ a, H' a = none → H a = none
  frz : ∀ a o u, H a = some (.frz o u) → H' a = some (.frz o u)
structure Aft (P : Pr) (K : PySem.W.Frag) (μ : List Addr) (s : S) (σ : L2.St) (H : Hp) (μ' : List Addr) (s' : S) (H' : Hp) : Prop where
  sim : Sim P K μ' s' σ H'
  pre : μ <+: μ'
  step : Step (foot μ s σ) H (foot μ' s' σ) H'
  sl : ∀ (i : Nat) e, s.ρ[i]? = some e → e.obj = true → ∃ e', s'.ρ[i]? = some e' ∧ e'.obj = true
/-- .. behind a statement: the slots may be others -/
structure AftS (P : Pr) (K : PySem.W.Frag) (μ : List Addr) (s : S) (σ : L2.St) (H : Hp) (μ' : List Addr) (s' : S) (σ' : L2.St) (H' : Hp) : Prop where
  sim : Sim P K μ' s' σ' H'
  pre : μ <+: μ'
  step : Step (foot μ s σ) H (foot μ' s' σ') H'

/-! ### keeping -/
theorem Step.refl {M : Addr → Prop} {H : Hp} : Step M H M H := ⟨fun _ _ e _ => e, fun _ h => .inl h, fun _ e => e, fun _ _ _ e => e⟩
theorem Step.trans {M M1 M2 : Addr → Prop} {H H1 H2 : Hp} (a : Step M H M1 H1) (b : Step M1 H1 M2 H2) : Step M H M2 H2 where
  keep := fun x o e h => b.keep x o (a.keep x o e h) fun h1 => by
    rcases a.new x h1 with z | z
    · exact h z
    · rw [e] at z; cases z
  new := fun x h => by
    rcases b.new x h with z | z
    · exact a.new x z
    · exact .inr (a.live x z)
  live := fun x e => a.live x (b.live x e)
  frz := fun x o u e => b.frz x o u (a.frz x o u e)
/-- tuples stay -/
structure Tups (K : PySem.W.Frag) (H H' : Hp) : Prop where
  tup : ∀ a xs, SqT K H a xs → SqT K H' a xs
  fz : ∀ a xs, FzL K H a xs → FzL K H' a xs
theorem Tups.refl {K : PySem.W.Frag} {H : Hp} : Tups K H H := ⟨fun _ _ h => h, fun _ _ h => h⟩
theorem Tups.trans {K : PySem.W.Frag} {H H1 H2 : Hp} (a : Tups K H H1) (b : Tups K H1 H2) : Tups K H H2 := ⟨fun x xs h => b.tup x xs (a.tup x xs h), fun x xs h => b.fz x xs (a.fz x xs h)⟩
theorem tups_of {K : PySem.W.Frag} {H H' : Hp} (h : ∀ a xs, Rd H a (.tup xs) → Rd H' a (.tup xs)) (hf : ∀ a o xs, H a = some (.frz o (.lst xs)) → H' a = some (.frz o (.lst xs))) : Tups K H H' := ⟨fun a xs q => q.imp (h a xs) id, fun a xs q => q.imp (fun ⟨o, e⟩ => ⟨o, hf a o xs e⟩) id⟩
section
variable {P : Pr} {K : PySem.W.Frag} {μ μ' : List Addr} {H H' : Hp}
mutual
theorem RepD.mono (t : Tups K H H') : ∀ {d : D} {v : V}, RepD K H d v → RepD K H' d v
  | _, _, .non => .non
  | _, _, .bl b => .bl b
  | _, _, .int i => .int i
  | _, _, .str s h => .str s h
  | _, _, .tup h r => .tup (t.tup _ _ h) (RepDs.mono t r)
theorem RepDs.mono (t : Tups K H H') : ∀ {d : List D} {v : List V}, RepDs K H d v → RepDs K H' d v
  | _, _, .nil => .nil
  | _, _, .cons h r => .cons (RepD.mono t h) (RepDs.mono t r)
end
theorem pre_get {α : Type} {l l' : List α} {i : Nat} {a : α} (h : l <+: l') (e : l[i]? = some a) : l'[i]? = some a := by
  obtain ⟨r, rfl⟩ := h
  have hi : i < l.length := (List.getElem?_eq_some_iff.mp e).1
  rw [List.getElem?_append_left hi]
  exact e
mutual
theorem SimW.mono (t : Tups K H H') (p : μ <+: μ') : ∀ {w : W} {v : V}, SimW K μ H w v → SimW K μ' H' w v
  | _, _, .d h => .d (h.mono t)
  | _, _, .ref e => .ref (pre_get p e)
  | _, _, .tup h r => .tup (t.tup _ _ h) (SimWs.mono t p r)
  | _, _, .scr h => .scr (t.fz _ _ h)
theorem SimWs.mono (t : Tups K H H') (p : μ <+: μ') : ∀ {w : List W} {v : List V}, SimWs K μ H w v → SimWs K μ' H' w v
  | _, _, .nil => .nil
  | _, _, .cons h r => .cons (SimW.mono t p h) (SimWs.mono t p r)
end
theorem SimF.mono (t : Tups K H H') (p : μ <+: μ') {fs : List (Nat × W)} {gs : List (PySem.Str × V)} (h : SimF P K μ H fs gs) : SimF P K μ' H' fs gs := Paired.mapP h fun _ _ q => ⟨q.1, q.2.mono t p⟩
theorem SimK.mono (t : Tups K H H') (p : μ <+: μ') {fs : List (D × W)} {gs : List (Key × V)} (h : SimK K μ H fs gs) : SimK K μ' H' fs gs := Paired.mapP h fun _ _ q => ⟨q.1, q.2.1.mono t p, q.2.2.mono t⟩
/-- an object whose own place stays -/
theorem SimO.mono (t : Tups K H H') (p : μ <+: μ') {o : O} {a : Addr} (e : H' a = H a) (ed : ∀ dx, H dx = some (.own a) → H' dx = some (.own a)) (h : SimO P K μ H o a) : SimO P K μ' H' o a := by
  cases o with
  | lst ws => obtain ⟨vs, e1, r⟩ := h; exact ⟨vs, e.trans e1, r.mono t p⟩
  | dct fz kvs =>
    cases fz with
    | false => obtain ⟨vs, e1, r⟩ := h; exact ⟨vs, e.trans e1, r.mono t p⟩
    | true => obtain ⟨vs, o, e1, r⟩ := h; exact ⟨vs, o, e.trans e1, r.mono t p⟩
  | ins c fs => obtain ⟨dx, vs, e1, e2, r⟩ := h; exact ⟨dx, vs, e.trans e1, ed _ e2, r.mono t p⟩
/-- what stands at a tracked thing's place is no tuple, no own dict -/
theorem SimO.notup {o : O} {a : Addr} (h : SimO P K μ H o a) : (∀ xs, ¬ Rd H a (.tup xs)) ∧ (∀ x, H a ≠ some (.own x)) ∧ H a ≠ none := by
  have key : ∀ u : HO, H a = some u → (∀ xs, u ≠ .tup xs) → (∀ o xs, u ≠ .frz o (.tup xs)) → (∀ x, u ≠ .own x) → (∀ xs, ¬ Rd H a (.tup xs)) ∧ (∀ x, H a ≠ some (.own x)) ∧ H a ≠ none := fun u e h1 h2 h3 => by
    refine ⟨fun xs q => ?_, fun x q => ?_, fun q => ?_⟩
    · rcases q with q | ⟨o, q⟩
      · rw [e] at q; cases q; exact h1 _ rfl
      · rw [e] at q; cases q; exact h2 _ _ rfl
    · rw [e] at q; cases q; exact h3 _ rfl
    · rw [e] at q; cases q
  cases o with
  | lst ws => obtain ⟨vs, e1, r⟩ := h; exact key _ e1 (fun _ z => nomatch z) (fun _ _ z => nomatch z) (fun _ z => nomatch z)
  | dct fz kvs =>
    cases fz with
    | false => obtain ⟨vs, e1, r⟩ := h; exact key _ e1 (fun _ z => nomatch z) (fun _ _ z => nomatch z) (fun _ z => nomatch z)
    | true => obtain ⟨vs, o, e1, r⟩ := h; exact key _ e1 (fun _ z => nomatch z) (fun _ _ z => by injection z with _ z; cases z) (fun _ z => nomatch z)
  | ins c fs => obtain ⟨dx, vs, e1, e2, r⟩ := h; exact key _ e1 (fun _ z => nomatch z) (fun _ _ z => nomatch z) (fun _ z => nomatch z)
end
section
variable {P : Pr} {K : PySem.W.Frag} {μ μ' : List Addr} {s s' : S} {σ : L2.St} {H H' : Hp}
theorem paired_get {α β : Type} {F : α → β → Prop} : ∀ {xs : List α} {ys : List β} {i : Nat} {x : α}, Paired F xs ys → xs[i]? = some x → ∃ y, ys[i]? = some y ∧ F x y
  | _, _, _, _, .nil, e => by simp at e
  | _, _, 0, _, .cons h _, e => by simp at e; subst e; exact ⟨_, rfl, h⟩
  | _, _, i + 1, _, .cons _ r, e => by
    obtain ⟨y, e1, h⟩ := paired_get (i := i) r (by simpa using e)
    exact ⟨y, by simpa using e1, h⟩
theorem paired_getR {α β : Type} {F : α → β → Prop} : ∀ {xs : List α} {ys : List β} {i : Nat} {y : β}, Paired F xs ys → ys[i]? = some y → ∃ x, xs[i]? = some x ∧ F x y
  | _, _, _, _, .nil, e => by simp at e
  | _, _, 0, _, .cons h _, e => by simp at e; subst e; exact ⟨_, rfl, h⟩
  | _, _, i + 1, _, .cons _ r, e => by
    obtain ⟨y, e1, h⟩ := paired_getR (i := i) r (by simpa using e)
    exact ⟨y, by simpa using e1, h⟩
theorem nodup_ixA {l : List Addr} (hN : l.Nodup) {i j : Nat} {x : Addr} (a : l[i]? = some x) (b : l[j]? = some x) : i = j := by
  obtain ⟨h1, e1⟩ := List.getElem?_eq_some_iff.mp a
  obtain ⟨h2, e2⟩ := List.getElem?_eq_some_iff.mp b
  exact (List.getElem_inj hN).mp (e1.trans e2.symm)
theorem paired_set {α β : Type} {F : α → β → Prop} {x : α} {y : β} (h : F x y) : ∀ {xs : List α} {ys : List β} (i : Nat), Paired F xs ys → Paired F (xs.set i x) (ys.set i y)
  | _, _, _, .nil => .nil
  | _, _, 0, .cons _ r => .cons h r
  | _, _, i + 1, .cons q r => .cons q (paired_set h i r)
/-- each address of the footprint holds a tracked object -/
theorem Sim.at_foot (I : Sim P K μ s σ H) {a : Addr} (h : foot μ s σ a) : ∃ o, SimO P K μ H o a := by
  rcases h with h | ⟨i, ⟨o, h1⟩, h2⟩
  · obtain ⟨i, hi⟩ := List.getElem?_of_mem h
    obtain ⟨o, _, q⟩ := paired_getR I.heap hi
    exact ⟨o, q⟩
  · obtain ⟨v, e, q⟩ := paired_get I.env h1
    rw [h2] at e
    cases e
    exact ⟨o, q⟩
theorem Sim.notup (I : Sim P K μ s σ H) {a : Addr} (h : foot μ s σ a) : (∀ xs, ¬ Rd H a (.tup xs)) ∧ (∀ x, H a ≠ some (.own x)) ∧ H a ≠ none := let ⟨_, q⟩ := I.at_foot h; q.notup
theorem SimO.nofl {o : O} {a : Addr} (h : SimO P K μ H o a) (f : Obj) (xs : List V) : H a ≠ some (.frz f (.lst xs)) := by
  intro z
  cases o with
  | lst ws => obtain ⟨vs, e1, _⟩ := h; rw [z] at e1; cases e1
  | dct fz kvs =>
    cases fz with
    | false => obtain ⟨vs, e1, _⟩ := h; rw [z] at e1; cases e1
    | true => obtain ⟨vs, o, e1, _⟩ := h; rw [z] at e1; injection e1 with e1; injection e1 with _ e1; cases e1
  | ins c fs => obtain ⟨dx, vs, e1, _⟩ := h; rw [z] at e1; cases e1
theorem Sim.nofl (I : Sim P K μ s σ H) {a : Addr} (h : foot μ s σ a) (f : Obj) (xs : List V) : H a ≠ some (.frz f (.lst xs)) := let ⟨_, q⟩ := I.at_foot h; q.nofl f xs
theorem Sim.tups (I : Sim P K μ s σ H) {M : Addr → Prop} (st : Step (foot μ s σ) H M H') : Tups K H H' := tups_of (fun a xs h => by
  have hn : ¬ foot μ s σ a := fun z => (I.notup z).1 xs h
  rcases h with h | ⟨o, h⟩
  · exact .inl (st.keep a _ h hn)
  · exact .inr ⟨o, st.keep a _ h hn⟩) fun a o xs e => st.frz a o _ e
theorem Aft.refl (I : Sim P K μ s σ H) : Aft P K μ s σ H μ s H := ⟨I, List.prefix_refl _, .refl, fun _ e h1 h2 => ⟨e, h1, h2⟩⟩
theorem Aft.trans {μ2 : List Addr} {s2 : S} {H2 : Hp} (a : Aft P K μ s σ H μ' s' H') (b : Aft P K μ' s' σ H' μ2 s2 H2) : Aft P K μ s σ H μ2 s2 H2 :=
  ⟨b.sim, a.pre.trans b.pre, a.step.trans b.step, fun i e h1 h2 => let ⟨e1, h3, h4⟩ := a.sl i e h1 h2; b.sl i e1 h3 h4⟩
theorem Aft.toS (a : Aft P K μ s σ H μ' s' H') : AftS P K μ s σ H μ' s' σ H' := ⟨a.sim, a.pre, a.step⟩
theorem AftS.trans {μ2 : List Addr} {s2 : S} {σ1 σ2 : L2.St} {H2 : Hp} (a : AftS P K μ s σ H μ' s' σ1 H') (b : AftS P K μ' s' σ1 H' μ2 s2 σ2 H2) : AftS P K μ s σ H μ2 s2 σ2 H2 :=
  ⟨b.sim, a.pre.trans b.pre, a.step.trans b.step⟩
theorem Aft.tups (I : Sim P K μ s σ H) (a : Aft P K μ s σ H μ' s' H') : Tups K H H' := I.tups a.step

/-! ### the same state over another heap -/
theorem Sim.over (I : Sim P K μ s σ H) (e : ∀ a, foot μ s σ a → H' a = H a) (t : Tups K H H') (ed : ∀ dx a, H dx = some (.own a) → H' dx = some (.own a)) : Sim P K μ s σ H' := by
  refine ⟨?_, ?_, I.nd, I.apart, I.inj⟩
  · have key : ∀ (hs : List O) (l : List Addr), Paired (SimO P K μ H) hs l → (∀ a ∈ l, a ∈ μ) → Paired (SimO P K μ H') hs l := by
      intro hs l h
      induction h with
      | nil => intro _; exact .nil
      | cons q r ih => intro m; exact .cons (q.mono t (List.prefix_refl _) (e _ (.inl (m _ List.mem_cons_self))) (fun dx z => ed dx _ z)) (ih fun a z => m a (List.mem_cons_of_mem _ z))
    exact key _ _ I.heap fun _ z => z
  · have key : ∀ (es : List E0) (l : L2.St), Paired (SimE P K μ H) es l → (∀ (i : Nat) o a, es[i]? = some (E0.own o) → l[i]? = some (some (V.ref a)) → foot μ s σ a) → Paired (SimE P K μ H') es l := by
      intro es l h
      induction h with
      | nil => intro _; exact .nil
      | @cons x v es l q r ih =>
        intro m
        refine .cons ?_ (ih fun i o a h1 h2 => m (i + 1) o a (by simpa using h1) (by simpa using h2))
        cases x with
        | un => trivial
        | w x => cases v with
          | none => exact q
          | some v => exact SimW.mono t (List.prefix_refl _) q
        | own o => cases v with
          | none => exact q
          | some v => cases v <;> first | exact q | skip
                      rename_i a
                      exact SimO.mono t (List.prefix_refl _) (e _ (m 0 o a rfl rfl)) (fun dx z => ed dx _ z) q
    exact key _ _ I.env fun i o a h1 h2 => .inr ⟨i, ⟨o, h1⟩, h2⟩
/-- a new object is laid -/
theorem Sim.alloc {p : Addr} {o : HO} (I : Sim P K μ s σ H) (hp : H p = none) : Aft P K μ s σ H μ s (upd H p o) := by
  have ne : ∀ a u, H a = some u → upd H p o a = some u := fun a u e => by rw [upd_ne (ne_of_none e hp)]; exact e
  have nf : ∀ a, foot μ s σ a → upd H p o a = H a := fun a h => by
    rw [upd_ne]
    intro z
    subst z
    exact (I.notup h).2.2 hp
  refine ⟨I.over nf (tups_of (fun a xs q => ?_) fun a o xs e => ne _ _ e) (fun dx a e => ne _ _ e), List.prefix_refl _, ⟨fun a u e _ => ne a u e, fun a h => .inl h, fun a e => ?_, fun a f u e => ne a _ e⟩, fun _ e h1 h2 => ⟨e, h1, h2⟩⟩
  · rcases q with q | ⟨u, q⟩
    · exact .inl (ne _ _ q)
    · exact .inr ⟨u, ne _ _ q⟩
  · cases q : H a with
    | none => rfl
    | some u => rw [ne a u q] at e; cases e

/-! ### places -/
def AtS (μ : List Addr) (s : S) (σ : L2.St) (x : Src) (a : Addr) : Prop := match x with
  | .hp j => μ[j]? = some a
  | .sl i => Owns s σ i a
theorem AtS.foot {x : Src} {a : Addr} (h : AtS μ s σ x a) : foot μ s σ a := by
  cases x with
  | hp j => exact .inl (List.mem_of_getElem? h)
  | sl i => exact .inr ⟨i, h⟩
theorem Sim.getOk (I : Sim P K μ s σ H) {x : Src} {o : O} (h : getO s x = some o) : ∃ a, AtS μ s σ x a ∧ SimO P K μ H o a := by
  cases x with
  | hp j =>
    obtain ⟨a, e, q⟩ := paired_get I.heap (show s.h[j]? = some o from h)
    exact ⟨a, e, q⟩
  | sl i =>
    have h1 : s.ρ[i]? = some (.own o) := by
      have h : (match s.ρ[i]? with | some (.own o) => some o | _ => none) = some o := h
      cases e : s.ρ[i]? with
      | none => rw [e] at h; cases h
      | some x => rw [e] at h; cases x <;> first | (cases h; done) | skip
                  cases h; rfl
    obtain ⟨v, e, q⟩ := paired_get I.env h1
    cases v with
    | none => exact q.elim
    | some v =>
      cases v <;> first | exact q.elim | skip
      exact ⟨_, ⟨⟨o, h1⟩, e⟩, q⟩
theorem Sim.at_inj (I : Sim P K μ s σ H) {x : Src} {a b : Addr} (h : AtS μ s σ x a) (h' : AtS μ s σ x b) : a = b := by
  cases x with
  | hp j => exact Option.some.inj ((show μ[j]? = some a from h).symm.trans h')
  | sl i =>
    have q := (show σ[i]? = some (some (V.ref a)) from h.2).symm.trans h'.2
    cases q
    rfl
theorem owns_set {i : Nat} {o o' : O} (e : s.ρ[i]? = some (.own o)) {j : Nat} {a : Addr} : Owns ⟨s.ρ.set i (.own o'), s.h⟩ σ j a ↔ Owns s σ j a := by
  have hi : i < s.ρ.length := (List.getElem?_eq_some_iff.mp e).1
  by_cases hj : i = j
  · subst hj
    constructor
    · rintro ⟨_, q⟩; exact ⟨⟨o, e⟩, q⟩
    · rintro ⟨_, q⟩; exact ⟨⟨o', by simp [hi]⟩, q⟩
  · constructor
    · rintro ⟨⟨u, q1⟩, q⟩; exact ⟨⟨u, by simpa [List.getElem?_set_ne hj] using q1⟩, q⟩
    · rintro ⟨⟨u, q1⟩, q⟩; exact ⟨⟨u, by simpa [List.getElem?_set_ne hj] using q1⟩, q⟩
theorem paired_setL {α β : Type} {F : α → β → Prop} {x : α} {y : β} (h : F x y) : ∀ {xs : List α} {ys : List β} (i : Nat), Paired F xs ys → ys[i]? = some y → Paired F (xs.set i x) ys
  | _, _, _, .nil, _ => .nil
  | _, _, 0, .cons _ r, e => by simp at e; subst e; exact .cons h r
  | _, _, i + 1, .cons q r, e => .cons q (paired_setL h i r (by simpa using e))
/-- an object is written: all else stands -/
theorem Sim.writeA {x : Src} {o o' : O} {a : Addr} {u : HO} (I : Sim P K μ s σ H) (h : Mn.getO s x = some o) (ha : AtS μ s σ x a) (new : SimO P K μ (upd H a u) o' a) : Sim P K μ (setO s x o') σ (upd H a u) ∧ (∀ b, foot μ (setO s x o') σ b → foot μ s σ b) ∧ (∀ (i : Nat) e, s.ρ[i]? = some e → e.obj = true → ∃ e', (setO s x o').ρ[i]? = some e' ∧ e'.obj = true) := by
  have fa := ha.foot
  obtain ⟨n1, n2, n3⟩ := I.notup fa
  have oth : ∀ b w, H b = some w → b ≠ a → upd H a u b = some w := fun b w e hb => by rw [upd_ne hb]; exact e
  have tu : Tups K H (upd H a u) := tups_of (fun b xs q => by
    have hb : b ≠ a := fun z => by subst z; exact n1 xs q
    rcases q with q | ⟨w, q⟩
    · exact .inl (oth b _ q hb)
    · exact .inr ⟨w, oth b _ q hb⟩) fun b o xs e => oth b _ e fun z => by subst z; exact I.nofl fa o xs e
  have ow : ∀ dx b, H dx = some (.own b) → upd H a u dx = some (.own b) := fun dx b e => oth dx _ e fun z => by subst z; exact n2 _ e
  have moO : ∀ {b : Addr} {w : O}, SimO P K μ H w b → b ≠ a → SimO P K μ (upd H a u) w b := fun q hb => q.mono tu (List.prefix_refl _) (upd_ne hb) fun dx z => ow dx _ z
  cases x with
  | hp j =>
    have ha' : μ[j]? = some a := ha
    have apA : ∀ i b, Owns s σ i b → b ≠ a := fun i b q z => by subst z; exact I.apart i b q (List.mem_of_getElem? ha')
    refine ⟨⟨?_, ?_, I.nd, I.apart, I.inj⟩, fun _ h => h, fun _ e h1 h2 => ⟨e, h1, h2⟩⟩
    · -- the heap
      have key : ∀ (hs : List O) (l : List Addr) (n : Nat), Paired (SimO P K μ H) hs l → (∀ (i : Nat) (b : Addr), l[i]? = some b → (b = a ↔ i = n)) → Paired (SimO P K μ (upd H a u)) (hs.set n o') l := by
        intro hs l n q
        induction q generalizing n with
        | nil => intro _; exact .nil
        | @cons w b hs l q r ih =>
          intro m
          cases n with
          | zero =>
            have e : b = a := (m 0 b rfl).mpr rfl
            subst e
            refine .cons new ?_
            have := ih hs.length fun i c hc => by
              have q := m (i + 1) c (by simpa using hc)
              constructor
              · intro z; exact absurd (q.mp z) (by omega)
              · intro z
                have := r.length
                have hi : i < l.length := (List.getElem?_eq_some_iff.mp hc).1
                omega
            rw [List.set_eq_of_length_le (by omega)] at this
            exact this
          | succ n =>
            refine .cons (moO q fun z => absurd ((m 0 b rfl).mp z) (by omega)) (ih n fun i c hc => ?_)
            have q := m (i + 1) c (by simpa using hc)
            constructor
            · intro z; have := q.mp z; omega
            · intro z; exact q.mpr (by omega)
      refine key _ _ j I.heap fun i b hb => ⟨fun z => ?_, fun z => ?_⟩
      · subst z; exact nodup_ixA I.nd hb ha'
      · subst z; exact Option.some.inj (hb.symm.trans ha')
    · have key : ∀ (es : List E0) (l : L2.St), Paired (SimE P K μ H) es l → (∀ (i : Nat) w b, es[i]? = some (E0.own w) → l[i]? = some (some (V.ref b)) → b ≠ a) → Paired (SimE P K μ (upd H a u)) es l := by
        intro es l q
        induction q with
        | nil => intro _; exact .nil
        | @cons e v es l q r ih =>
          intro m
          refine .cons ?_ (ih fun i o a h1 h2 => m (i + 1) o a (by simpa using h1) (by simpa using h2))
          cases e with
          | un => trivial
          | w x => cases v with
            | none => exact q
            | some v => exact SimW.mono tu (List.prefix_refl _) q
          | own o => cases v with
            | none => exact q
            | some v => cases v <;> first | exact q | skip
                        exact moO q (m 0 o _ rfl rfl)
      exact key _ _ I.env fun i w b h1 h2 => apA i b ⟨⟨w, h1⟩, h2⟩
  | sl i =>
    obtain ⟨⟨o1, h1⟩, h2⟩ := ha
    have naM : a ∉ μ := I.apart i a ⟨⟨o1, h1⟩, h2⟩
    have eq : ∀ j b, Owns (setO s (.sl i) o') σ j b ↔ Owns s σ j b := fun j b => owns_set h1
    have ft : foot μ (setO s (.sl i) o') σ = foot μ s σ := by
      funext b
      unfold foot
      exact propext (or_congr Iff.rfl (exists_congr fun j => eq j b))
    refine ⟨⟨?_, ?_, I.nd, fun j b q => I.apart j b ((eq j b).mp q), fun j k b p q => I.inj j k b ((eq j b).mp p) ((eq k b).mp q)⟩, fun b h => by rw [ft] at h; exact h, fun j e e1 e2 => ?_⟩
    rotate_left 2
    · by_cases hj : i = j
      · subst hj
        exact ⟨.own o', by show (s.ρ.set i (.own o'))[i]? = _; simp [(List.getElem?_eq_some_iff.mp h1).1], rfl⟩
      · exact ⟨e, by show (s.ρ.set i (.own o'))[j]? = _; rw [List.getElem?_set_ne hj]; exact e1, e2⟩
    · have key : ∀ (hs : List O) (l : List Addr), Paired (SimO P K μ H) hs l → (∀ b ∈ l, b ≠ a) → Paired (SimO P K μ (upd H a u)) hs l := by
        intro hs l q
        induction q with
        | nil => intro _; exact .nil
        | cons q r ih => intro m; exact .cons (moO q (m _ List.mem_cons_self)) (ih fun b z => m b (List.mem_cons_of_mem _ z))
      exact key _ _ I.heap fun b hb z => by subst z; exact naM hb
    · have key : ∀ (es : List E0) (l : L2.St) (n : Nat), Paired (SimE P K μ H) es l → (∀ (j : Nat) w b, es[j]? = some (E0.own w) → l[j]? = some (some (V.ref b)) → b = a → j = n) → (∀ v, l[n]? = some v → v = some (.ref a)) → Paired (SimE P K μ (upd H a u)) (es.set n (.own o')) l := by
        intro es l n q
        induction q generalizing n with
        | nil => intro _ _; exact .nil
        | @cons e v es l q r ih =>
          intro m mv
          have stay : (∀ w b, e = .own w → v = some (.ref b) → b ≠ a) → SimE P K μ (upd H a u) e v := fun hne => by
            cases e with
            | un => trivial
            | w x => cases v with
              | none => exact q
              | some v => exact SimW.mono tu (List.prefix_refl _) q
            | own o => cases v with
              | none => exact q
              | some v => cases v <;> first | exact q | skip
                          exact moO q (hne o _ rfl rfl)
          cases n with
          | zero =>
            have e2 := mv v rfl
            subst e2
            refine .cons new ?_
            have := ih es.length (fun j w b h1 h2 z => absurd (m (j + 1) w b (by simpa using h1) (by simpa using h2) z) (by omega)) (fun v hv => by
              have := r.length
              have hi := (List.getElem?_eq_some_iff.mp hv).1
              omega)
            rw [List.set_eq_of_length_le (by omega)] at this
            exact this
          | succ n =>
            refine .cons (stay fun w b e1 e2 z => ?_) (ih n (fun j w b h1 h2 z => ?_) fun v hv => mv v (by simpa using hv))
            · subst e1 e2
              exact absurd (m 0 w b rfl rfl z) (by omega)
            · have := m (j + 1) w b (by simpa using h1) (by simpa using h2) z
              omega
      exact key _ _ i I.env (fun j w b q1 q2 z => by subst z; exact I.inj j i b ⟨⟨w, q1⟩, q2⟩ ⟨⟨o1, h1⟩, h2⟩) fun v hv => Option.some.inj (hv.symm.trans h2)

/-- an object that is not frozen -/
theorem SimO.nofrz {o : O} {a : Addr} (h : SimO P K μ H o a) (ho : ∀ kvs, o ≠ .dct true kvs) (f : Obj) (u : HO) : H a ≠ some (.frz f u) := by
  intro z
  cases o with
  | lst ws => obtain ⟨vs, e1, _⟩ := h; rw [z] at e1; cases e1
  | dct fz kvs =>
    cases fz with
    | false => obtain ⟨vs, e1, _⟩ := h; rw [z] at e1; cases e1
    | true => exact ho kvs rfl
  | ins c fs => obtain ⟨dx, vs, e1, _⟩ := h; rw [z] at e1; cases e1
theorem Sim.write {x : Src} {o o' : O} {a : Addr} {u : HO} (I : Sim P K μ s σ H) (h : Mn.getO s x = some o) (ho : ∀ kvs, o ≠ .dct true kvs) (ha : AtS μ s σ x a) (new : SimO P K μ (upd H a u) o' a) : Aft P K μ s σ H μ (setO s x o') (upd H a u) := by
  obtain ⟨h1, h2, h3⟩ := I.writeA h ha new
  have fa := ha.foot
  refine ⟨h1, List.prefix_refl _, ⟨fun b w e hb => ?_, fun b hb => .inl (h2 b hb), fun b e => ?_, fun b f w e => ?_⟩, h3⟩
  · rw [upd_ne fun z => by subst z; exact hb fa]; exact e
  · by_cases hb : b = a
    · subst hb; rw [upd_same] at e; cases e
    · rw [upd_ne hb] at e; exact e
  · obtain ⟨b', hb', q⟩ := I.getOk h
    cases I.at_inj ha hb'
    rw [upd_ne fun z => by subst z; exact q.nofrz ho f w e]
    exact e
/-! ### results -/
def RepR (P : Pr) (K : PySem.W.Frag) (μ : List Addr) (s : S) (σ : L2.St) (H : Hp) : R → V → Prop
  | .w x, v => SimW K μ H x v
  | .new o, v => ∃ a, v = .ref a ∧ SimO P K μ H o a ∧ ¬ foot μ s σ a
  | .slot i, v => σ[i]? = some (some v) ∧ ∃ e, s.ρ[i]? = some e ∧ e.obj = true
/-- made behind H₀ -/
def Frs (H₀ : Hp) : R → V → Prop
  | .new _, .ref a => H₀ a = none
  | _, _ => True
theorem SimO.aft {o : O} {a : Addr} (I : Sim P K μ s σ H) (A : Aft P K μ s σ H μ' s' H') (h : SimO P K μ H o a) (n : ¬ foot μ s σ a) : SimO P K μ' H' o a := by
  obtain ⟨n1, n2, n3⟩ := h.notup
  refine h.mono (A.tups I) A.pre ?_ fun dx e => A.step.keep dx _ e fun z => (I.notup z).2.1 _ e
  cases e : H a with
  | none => exact absurd e n3
  | some u => exact A.step.keep a u e n
theorem RepR.aft {r : R} {v : V} (I : Sim P K μ s σ H) (A : Aft P K μ s σ H μ' s' H') (h : RepR P K μ s σ H r v) : RepR P K μ' s' σ H' r v := by
  cases r with
  | w x => exact SimW.mono (A.tups I) A.pre h
  | new o =>
    obtain ⟨a, rfl, q, n⟩ := h
    refine ⟨a, rfl, q.aft I A n, fun z => ?_⟩
    rcases A.step.new a z with z | z
    · exact n z
    · exact q.notup.2.2 z
  | slot i =>
    obtain ⟨h1, e, h2, h3⟩ := h
    exact ⟨h1, A.sl i e h2 h3⟩
theorem Frs.back {r : R} {v : V} {H₀ : Hp} (l : ∀ a, H a = none → H₀ a = none) (h : Frs H r v) : Frs H₀ r v := by
  cases r with
  | new o => cases v <;> first | trivial | exact l _ h
  | w x => trivial
  | slot i => trivial
/-- a state and what it keeps, with room for one address more -/
structure Bx (P : Pr) (K : PySem.W.Frag) (μ : List Addr) (s : S) (σ : L2.St) (H : Hp) (μ' : List Addr) (s' : S) (N : Addr → Prop) : Prop where
  sim : Sim P K μ' s' σ H
  pre : μ <+: μ'
  ft : ∀ a, foot μ' s' σ a → foot μ s σ a ∨ N a
  sl : ∀ (i : Nat) e, s.ρ[i]? = some e → e.obj = true → ∃ e', s'.ρ[i]? = some e' ∧ e'.obj = true
theorem Bx.aft {N : Addr → Prop} {μ₀ : List Addr} {s₀ : S} {H₀ : Hp} (A : Aft P K μ₀ s₀ σ H₀ μ s H) (B : Bx P K μ s σ H μ' s' N) (n : ∀ a, N a → H₀ a = none) : Aft P K μ₀ s₀ σ H₀ μ' s' H :=
  ⟨B.sim, A.pre.trans B.pre, ⟨A.step.keep, fun a h => by
    rcases B.ft a h with h | h
    · exact A.step.new a h
    · exact .inr (n a h), A.step.live, A.step.frz⟩, fun i e h1 h2 => let ⟨e1, h3, h4⟩ := A.sl i e h1 h2; B.sl i e1 h3 h4⟩
def isNew (r : R) (v : V) (a : Addr) : Prop := (∃ o, r = .new o) ∧ v = .ref a
/-- an object of nobody's, of a slot's goes to the heap -/
theorem Sim.toHeap {o : O} {a : Addr} {ρ' : List E0} (I : Sim P K μ s σ H) (q : SimO P K μ H o a) (hn : a ∉ μ) (he : Paired (SimE P K (μ ++ [a]) H) ρ' σ) (sub : ∀ i b, (∃ o, ρ'[i]? = some (.own o)) → σ[i]? = some (some (V.ref b)) → b ≠ a ∧ Owns s σ i b) :
    Sim P K (μ ++ [a]) ⟨ρ', s.h ++ [o]⟩ σ H := by
  have pre : μ <+: μ ++ [a] := List.prefix_append _ _
  refine ⟨?_, he, ?_, fun i b ⟨h1, h2⟩ => ?_, fun i j b ⟨h1, h2⟩ ⟨h3, h4⟩ => ?_⟩
  · exact Paired.snoc (Paired.mapP I.heap fun o b z => z.mono Tups.refl pre rfl fun _ e => e) (q.mono Tups.refl pre rfl fun _ e => e)
  · rw [List.nodup_append]
    exact ⟨I.nd, by simp, fun x hx y hy => by simp at hy; subst hy; intro z; subst z; exact hn hx⟩
  · obtain ⟨ne, ow⟩ := sub i b h1 h2
    intro z
    rcases List.mem_append.mp z with z | z
    · exact I.apart i b ow z
    · simp at z; exact ne z
  · exact I.inj i j b (sub i b h1 h2).2 (sub j b h3 h4).2
theorem Sim.len (I : Sim P K μ s σ H) : s.h.length = μ.length := Paired.length I.heap
theorem Sim.lenE (I : Sim P K μ s σ H) : s.ρ.length = σ.length := Paired.length I.env
theorem Sim.box {r : R} {v : V} {x : W} (I : Sim P K μ s σ H) (h : RepR P K μ s σ H r v) (e : boxR r s = some (x, s')) : ∃ μ', Bx P K μ s σ H μ' s' (isNew r v) ∧ SimW K μ' H x v := by
  have same : ∀ {x : W}, SimW K μ H x v → ∃ μ', Bx P K μ s σ H μ' s (isNew r v) ∧ SimW K μ' H x v := fun q => ⟨μ, ⟨I, List.prefix_refl _, fun a h => .inl h, fun i e h1 h2 => ⟨e, h1, h2⟩⟩, q⟩
  cases r with
  | w y =>
    have e2 : some (y, s) = some (x, s') := e
    cases e2
    exact same h
  | new o =>
    have e2 : some (W.ref s.h.length, (⟨s.ρ, s.h ++ [o]⟩ : S)) = some (x, s') := e
    cases e2
    obtain ⟨a, rfl, q, n⟩ := h
    have pre : μ <+: μ ++ [a] := List.prefix_append _ _
    refine ⟨μ ++ [a], ⟨I.toHeap q (fun z => n (.inl z)) (Paired.mapP I.env fun e v z => ?_) (fun i b h1 h2 => ⟨fun z => n (by subst z; exact .inr ⟨i, h1, h2⟩), h1, h2⟩), pre, fun b hb => ?_, fun i e h1 h2 => ⟨e, h1, h2⟩⟩, .ref (by rw [I.len]; simp)⟩
    · cases e with
      | un => trivial
      | w y => cases v with
        | none => exact z
        | some v => exact SimW.mono Tups.refl pre z
      | own o => cases v with
        | none => exact z
        | some v => cases v <;> first | exact z | skip
                    exact SimO.mono Tups.refl pre rfl (fun _ e => e) z
    · rcases hb with hb | ⟨i, hb⟩
      · rcases List.mem_append.mp hb with hb | hb
        · exact .inl (.inl hb)
        · simp at hb; exact .inr ⟨⟨o, rfl⟩, by rw [hb]⟩
      · exact .inl (.inr ⟨i, hb⟩)
  | slot i =>
    obtain ⟨h1, e1, h2, h3⟩ := h
    obtain ⟨v', hv, q⟩ := paired_get I.env h2
    rw [h1] at hv
    cases hv
    have e2 : (match s.ρ[i]? with
      | some (.own o) => some (W.ref s.h.length, (⟨s.ρ.set i (.w (.ref s.h.length)), s.h ++ [o]⟩ : S))
      | some (.w x) => some (x, s)
      | _ => none) = some (x, s') := e
    rw [h2] at e2
    cases e1 with
    | un => cases h3
    | w y =>
      cases e2
      exact same q
    | own o =>
      cases e2
      cases v <;> first | exact q.elim | skip
      rename_i a
      have ow : Owns s σ i a := ⟨⟨o, h2⟩, h1⟩
      have hi : i < s.ρ.length := (List.getElem?_eq_some_iff.mp h2).1
      have pre : μ <+: μ ++ [a] := List.prefix_append _ _
      have nM : a ∉ μ := I.apart i a ow
      have sub : ∀ (j : Nat) (b : Addr), (∃ o, (s.ρ.set i (.w (.ref s.h.length)))[j]? = some (E0.own o)) → σ[j]? = some (some (V.ref b)) → b ≠ a ∧ Owns s σ j b := fun j b ⟨o', q1⟩ q2 => by
        by_cases hj : i = j
        · subst hj
          rw [List.getElem?_set_self hi] at q1
          cases q1
        · rw [List.getElem?_set_ne hj] at q1
          exact ⟨fun z => hj (I.inj i j a ow (by subst z; exact ⟨⟨o', q1⟩, q2⟩)), ⟨o', q1⟩, q2⟩
      refine ⟨μ ++ [a], ⟨I.toHeap q nM ?_ sub, pre, fun b hb => ?_, fun j e h4 h5 => ?_⟩, .ref (by rw [I.len]; simp)⟩
      · refine paired_setL (y := some (V.ref a)) ?_ i (Paired.mapP I.env fun e v z => ?_) h1
        · exact SimW.ref (by rw [I.len]; simp)
        · cases e with
          | un => trivial
          | w y => cases v with
            | none => exact z
            | some v => exact SimW.mono Tups.refl pre z
          | own o => cases v with
            | none => exact z
            | some v => cases v <;> first | exact z | skip
                        exact SimO.mono Tups.refl pre rfl (fun _ e => e) z
      · rcases hb with hb | ⟨j, hb1, hb2⟩
        · rcases List.mem_append.mp hb with hb | hb
          · exact .inl (.inl hb)
          · simp at hb; exact .inl (.inr ⟨i, by rw [hb]; exact ow⟩)
        · exact .inl (.inr ⟨j, (sub j b hb1 hb2).2⟩)
      · by_cases hj : i = j
        · subst hj
          exact ⟨.w (.ref s.h.length), by show (s.ρ.set i _)[i]? = _; rw [List.getElem?_set_self hi], rfl⟩
        · exact ⟨e, by show (s.ρ.set i _)[j]? = _; rw [List.getElem?_set_ne hj]; exact h4, h5⟩

/-! ### rows of results -/
def newsOf : List R → List V → List Addr
  | .new _ :: rs, .ref a :: vs => a :: newsOf rs vs
  | _ :: rs, _ :: vs => newsOf rs vs
  | _, _ => []
structure RepRs (P : Pr) (K : PySem.W.Frag) (μ : List Addr) (s : S) (σ : L2.St) (H : Hp) (rs : List R) (vs : List V) : Prop where
  all : Paired (RepR P K μ s σ H) rs vs
  nd : (newsOf rs vs).Nodup
theorem newsOf_new {P : Pr} {K : PySem.W.Frag} {μ : List Addr} {s : S} {σ : L2.St} {H : Hp} : ∀ {rs : List R} {vs : List V}, Paired (RepR P K μ s σ H) rs vs → ∀ a ∈ newsOf rs vs, H a ≠ none ∧ ¬ foot μ s σ a
  | _, _, .nil, a, h => by simp [newsOf] at h
  | r :: rs, v :: vs, .cons q t, a, h => by
    cases r with
    | new o =>
      obtain ⟨b, rfl, q1, q2⟩ := q
      simp only [newsOf, List.mem_cons] at h
      rcases h with rfl | h
      · exact ⟨q1.notup.2.2, q2⟩
      · exact newsOf_new t a h
    | w x => exact newsOf_new t a (by simpa [newsOf] using h)
    | slot i => exact newsOf_new t a (by simpa [newsOf] using h)
theorem RepRs.nil : RepRs P K μ s σ H [] [] := ⟨.nil, by simp [newsOf]⟩
theorem RepRs.cons {r : R} {v : V} {rs : List R} {vs : List V} (h : RepR P K μ s σ H r v) (t : RepRs P K μ s σ H rs vs) (n : ∀ a, isNew r v a → a ∉ newsOf rs vs) : RepRs P K μ s σ H (r :: rs) (v :: vs) := by
  refine ⟨.cons h t.all, ?_⟩
  cases r with
  | new o =>
    obtain ⟨b, rfl, _, _⟩ := h
    simp only [newsOf, List.nodup_cons]
    exact ⟨n b ⟨⟨o, rfl⟩, rfl⟩, t.nd⟩
  | w x => simpa [newsOf] using t.nd
  | slot i => simpa [newsOf] using t.nd
theorem RepRs.uncons {r : R} {v : V} {rs : List R} {vs : List V} (h : RepRs P K μ s σ H (r :: rs) (v :: vs)) : RepR P K μ s σ H r v ∧ RepRs P K μ s σ H rs vs ∧ ∀ a, isNew r v a → a ∉ newsOf rs vs := by
  obtain ⟨h1, h2⟩ := h
  cases h1 with
  | cons q t =>
    cases r with
    | new o =>
      obtain ⟨b, rfl, _, _⟩ := id q
      simp only [newsOf, List.nodup_cons] at h2
      exact ⟨q, ⟨t, h2.2⟩, fun a ⟨_, e⟩ => by cases e; exact h2.1⟩
    | w x => exact ⟨q, ⟨t, by simpa [newsOf] using h2⟩, fun a ⟨⟨o, e⟩, _⟩ => nomatch e⟩
    | slot i => exact ⟨q, ⟨t, by simpa [newsOf] using h2⟩, fun a ⟨⟨o, e⟩, _⟩ => nomatch e⟩
/-- results behind a boxing (the heap is as it was) -/
theorem RepR.bx {N : Addr → Prop} {r : R} {v : V} (B : Bx P K μ s σ H μ' s' N) (h : RepR P K μ s σ H r v) (n : ∀ a, isNew r v a → ¬ N a) : RepR P K μ' s' σ H r v := by
  cases r with
  | w x => exact SimW.mono Tups.refl B.pre h
  | new o =>
    obtain ⟨a, rfl, q, nf⟩ := h
    refine ⟨a, rfl, q.mono Tups.refl B.pre rfl (fun _ e => e), fun z => ?_⟩
    rcases B.ft a z with z | z
    · exact nf z
    · exact n a ⟨⟨o, rfl⟩, rfl⟩ z
  | slot i =>
    obtain ⟨h1, e, h2, h3⟩ := h
    exact ⟨h1, B.sl i e h2 h3⟩
theorem isNew_mem {r : R} {v : V} {a : Addr} {rs : List R} {vs : List V} : ∀ (i : Nat), rs[i]? = some r → vs[i]? = some v → isNew r v a → a ∈ newsOf rs vs := by
  induction rs generalizing vs with
  | nil => intro i h; simp at h
  | cons x rs ih =>
    intro i h1 h2 hn
    cases vs with
    | nil => simp at h2
    | cons y vs =>
      cases i with
      | zero =>
        simp at h1 h2
        subst h1 h2
        obtain ⟨⟨o, rfl⟩, rfl⟩ := hn
        simp [newsOf]
      | succ i =>
        have q := ih i (by simpa using h1) (by simpa using h2) hn
        cases x with
        | new o => cases y <;> first | exact q | exact List.mem_cons_of_mem _ q
        | w z => exact q
        | slot z => exact q
theorem RepRs.bx {N : Addr → Prop} {rs : List R} {vs : List V} (B : Bx P K μ s σ H μ' s' N) (h : RepRs P K μ s σ H rs vs) (n : ∀ a ∈ newsOf rs vs, ¬ N a) : RepRs P K μ' s' σ H rs vs := by
  refine ⟨?_, h.nd⟩
  have key : ∀ {rs : List R} {vs : List V}, Paired (RepR P K μ s σ H) rs vs → (∀ a ∈ newsOf rs vs, ¬ N a) → Paired (RepR P K μ' s' σ H) rs vs := by
    intro rs vs q
    induction q with
    | nil => intro _; exact .nil
    | @cons r v rs vs q t ih =>
      intro m
      refine .cons (q.bx B fun a hn => m a (isNew_mem 0 rfl rfl hn)) (ih fun a ha => m a ?_)
      cases r with
      | new o => cases v <;> first | exact ha | exact List.mem_cons_of_mem _ ha
      | w z => exact ha
      | slot z => exact ha
  exact key h.all n
theorem Bx.trans {N N' : Addr → Prop} {μ2 : List Addr} {s2 : S} (a : Bx P K μ s σ H μ' s' N) (b : Bx P K μ' s' σ H μ2 s2 N') : Bx P K μ s σ H μ2 s2 fun x => N x ∨ N' x :=
  ⟨b.sim, a.pre.trans b.pre, fun x h => by
    rcases b.ft x h with h | h
    · exact (a.ft x h).imp id .inl
    · exact .inr (.inr h), fun i e h1 h2 => let ⟨e1, h3, h4⟩ := a.sl i e h1 h2; b.sl i e1 h3 h4⟩
theorem Bx.more {N N' : Addr → Prop} (a : Bx P K μ s σ H μ' s' N) (h : ∀ x, N x → N' x) : Bx P K μ s σ H μ' s' N' := ⟨a.sim, a.pre, fun x q => (a.ft x q).imp id (h x), a.sl⟩
theorem Sim.boxesOk : ∀ {rs : List R} {vs : List V} {μ : List Addr} {s s' : S} {xs : List W}, Sim P K μ s σ H → RepRs P K μ s σ H rs vs → boxes rs s = some (xs, s') →
    ∃ μ', Bx P K μ s σ H μ' s' (fun a => a ∈ newsOf rs vs) ∧ SimWs K μ' H xs vs
  | [], vs, μ, s, s', xs, I, h, e => by
    cases h.all
    cases (show some (([] : List W), s) = some (xs, s') from e)
    exact ⟨μ, ⟨I, List.prefix_refl _, fun a h => .inl h, fun i e h1 h2 => ⟨e, h1, h2⟩⟩, .nil⟩
  | r :: rs, vs, μ, s, s', xs, I, h, e => by
    cases vs with
    | nil => cases h.all
    | cons v vs =>
      obtain ⟨h1, h2, h3⟩ := h.uncons
      have e2 : (match boxR r s with
        | some (x, s1) => match boxes rs s1 with
          | some (xs, s2) => some (x :: xs, s2)
          | none => none
        | none => none) = some (xs, s') := e
      cases q : boxR r s with
      | none => rw [q] at e2; cases e2
      | some y =>
        obtain ⟨x, s1⟩ := y
        rw [q] at e2
        obtain ⟨μ1, B1, w1⟩ := I.box h1 q
        cases q2 : boxes rs s1 with
        | none => simp only [q2] at e2; cases e2
        | some y2 =>
          obtain ⟨xs2, s2⟩ := y2
          simp only [q2] at e2
          cases e2
          obtain ⟨μ2, B2, w2⟩ := Sim.boxesOk B1.sim (h2.bx B1 fun a ha hn => h3 a hn ha) q2
          refine ⟨μ2, (B1.trans B2).more fun a ha => ?_, .cons (w1.mono Tups.refl B2.pre) w2⟩
          rcases ha with ⟨⟨o, rfl⟩, rfl⟩ | ha
          · simp [newsOf]
          · cases r with
            | new o => cases v <;> first | exact ha | exact List.mem_cons_of_mem _ ha
            | w z => exact ha
            | slot z => exact ha

/-! ### a slot is given a value -/
theorem paired_setB {α β : Type} {F : α → β → Prop} {x : α} {y : β} (h : F x y) {xs : List α} {ys : List β} (i : Nat) (p : Paired F xs ys) : Paired F (xs.set i x) (ys.set i y) := paired_set h i p
theorem Bx.aftS {N : Addr → Prop} {μ₀ : List Addr} {s₀ : S} {σ₀ : L2.St} {H₀ : Hp} (A : AftS P K μ₀ s₀ σ₀ H₀ μ s σ H) (B : Bx P K μ s σ H μ' s' N) (n : ∀ a, N a → H₀ a = none) : AftS P K μ₀ s₀ σ₀ H₀ μ' s' σ H :=
  ⟨B.sim, A.pre.trans B.pre, ⟨A.step.keep, fun a h => by
    rcases B.ft a h with h | h
    · exact A.step.new a h
    · exact .inr (n a h), A.step.live, A.step.frz⟩⟩
theorem Sim.asgOk {r : R} {v : V} {i : Nat} {s0 : S} {μ0 : List Addr} {σ0 : L2.St} {H0 : Hp} (A : AftS P K μ0 s0 σ0 H0 μ s σ H) (h : RepR P K μ s σ H r v) (f : Frs H0 r v) (e : asg i r s = some s') : ∃ μ', AftS P K μ0 s0 σ0 H0 μ' s' (σ.set i (some v)) H := by
  have I := A.sim
  have frs : ∀ a, isNew r v a → H0 a = none := fun a ⟨⟨o, e1⟩, e2⟩ => by subst e1 e2; exact f
  -- a value is kept in the slot
  have keepW : ∀ {μ1 : List Addr} {s1 : S} {x : W}, AftS P K μ0 s0 σ0 H0 μ1 s1 σ H → SimW K μ1 H x v → i < s1.ρ.length → AftS P K μ0 s0 σ0 H0 μ1 ⟨s1.ρ.set i (.w x), s1.h⟩ (σ.set i (some v)) H := fun {μ1 s1 x} B q hi => by
    have sub : ∀ (j : Nat) (b : Addr), Owns ⟨s1.ρ.set i (.w x), s1.h⟩ (σ.set i (some v)) j b → Owns s1 σ j b := fun j b ⟨⟨o, q1⟩, q2⟩ => by
      by_cases hj : i = j
      · subst hj
        have q1 : (s1.ρ.set i (.w x))[i]? = some (E0.own o) := q1
        rw [List.getElem?_set_self hi] at q1
        cases q1
      · have q1 : (s1.ρ.set i (.w x))[j]? = some (E0.own o) := q1
        rw [List.getElem?_set_ne hj] at q1 q2
        exact ⟨⟨o, q1⟩, q2⟩
    refine ⟨⟨B.sim.heap, paired_setB (F := SimE P K μ1 H) (x := .w x) (y := some v) q i B.sim.env, B.sim.nd, fun j b z => B.sim.apart j b (sub j b z), fun j k b z1 z2 => B.sim.inj j k b (sub j b z1) (sub k b z2)⟩, B.pre, B.step.keep, fun a z => ?_, B.step.live, B.step.frz⟩
    refine B.step.new a ?_
    rcases z with z | ⟨j, z⟩
    · exact .inl z
    · exact .inr ⟨j, sub j a z⟩
  have boxed : ∀ {x : W} {s1 : S}, boxR r s = some (x, s1) → i < s1.ρ.length → ∃ μ', AftS P K μ0 s0 σ0 H0 μ' ⟨s1.ρ.set i (.w x), s1.h⟩ (σ.set i (some v)) H := fun {x s1} q hi => by
    obtain ⟨μ1, B, w1⟩ := I.box h q
    exact ⟨μ1, keepW (B.aftS A frs) w1 hi⟩
  have viaBox : (match boxR r s with
      | some (x, s1) => if i < s1.ρ.length then some (⟨s1.ρ.set i (.w x), s1.h⟩ : S) else none
      | none => none) = some s' → ∃ μ', AftS P K μ0 s0 σ0 H0 μ' s' (σ.set i (some v)) H := fun e => by
    cases q : boxR r s with
    | none => rw [q] at e; cases e
    | some y =>
      obtain ⟨x, s1⟩ := y
      simp only [q] at e
      by_cases hi : i < s1.ρ.length
      · rw [if_pos hi] at e
        cases e
        exact boxed q hi
      · rw [if_neg hi] at e; cases e
  cases r with
  | w y => exact viaBox e
  | slot j => exact viaBox e
  | new o =>
    have e2 : (if i < s.ρ.length then some (⟨s.ρ.set i (.own o), s.h⟩ : S) else none) = some s' := e
    by_cases hi : i < s.ρ.length
    · rw [if_pos hi] at e2
      cases e2
      obtain ⟨a, rfl, q, n⟩ := h
      have hiσ : i < σ.length := by rw [← I.lenE]; exact hi
      have sub : ∀ (j : Nat) (b : Addr), Owns ⟨s.ρ.set i (.own o), s.h⟩ (σ.set i (some (V.ref a))) j b → (j = i ∧ b = a) ∨ (j ≠ i ∧ Owns s σ j b) := fun j b ⟨⟨u, q1⟩, q2⟩ => by
        by_cases hj : i = j
        · subst hj
          rw [List.getElem?_set_self hiσ] at q2
          cases q2
          exact .inl ⟨rfl, rfl⟩
        · have q1 : (s.ρ.set i (.own o))[j]? = some (E0.own u) := q1
          rw [List.getElem?_set_ne hj] at q1 q2
          exact .inr ⟨fun z => hj z.symm, ⟨u, q1⟩, q2⟩
      refine ⟨μ, ⟨I.heap, paired_setB (show SimE P K μ H (.own o) (some (V.ref a)) from q) i I.env, I.nd, fun j b z => ?_, fun j k b z1 z2 => ?_⟩, A.pre, A.step.keep, fun b z => ?_, A.step.live, A.step.frz⟩
      · rcases sub j b z with ⟨_, rfl⟩ | ⟨_, z⟩
        · exact fun hm => n (.inl hm)
        · exact I.apart j b z
      · rcases sub j b z1 with ⟨e1, e2⟩ | ⟨_, z1⟩
        · rcases sub k b z2 with ⟨e3, _⟩ | ⟨_, y2⟩
          · rw [e1, e3]
          · exact absurd (.inr ⟨k, by rw [← e2]; exact y2⟩) n
        · rcases sub k b z2 with ⟨_, e4⟩ | ⟨_, y2⟩
          · exact absurd (.inr ⟨j, by rw [← e4]; exact z1⟩) n
          · exact I.inj j k b z1 y2
      · rcases z with z | ⟨j, z⟩
        · exact A.step.new b (.inl z)
        · rcases sub j b z with ⟨_, rfl⟩ | ⟨_, z⟩
          · exact .inr f
          · exact A.step.new b (.inr ⟨j, z⟩)
    · rw [if_neg hi] at e2; cases e2
end
end Mn

end
section
set_option Elab.async false
set_option linter.all false
set_option maxRecDepth 100000
set_option maxHeartbeats 4000000
/-! MnRule: each construct of Python against its combinator. -/
namespace Mn
open PySem PySem.Spec PyProof.Rows L2

def ExcAt (P : Pr) (K : PySem.W.Frag) (μ : List Addr) (s : S) (σ : L2.St) (H : Hp) (xs : List (Nat × D)) (d : Addr) : Prop :=
  ∃ fs : List (PySem.Str × V), H d = some (.xd fs) ∧ Paired (fun p q => P.fn p.1 = q.1 ∧ RepD K H p.2 q.2) xs fs ∧ ¬ foot μ s σ d
def Pst (P : Pr) (K : PySem.W.Frag) (Wx : WX) {α : Type} (μ : List Addr) (s : S) (σ : L2.St) (H : Hp) (x : Res α) (Q : α → S → List Addr → Hp → Prop) : Prop := match x with
  | .ok a s' => ∀ μ' H', Aft P K μ s σ H μ' s' H' → Q a s' μ' H'
  | .exc c xs s' => ∀ μ' H' d, Aft P K μ s σ H μ' s' H' → ExcAt P K μ' s' σ H' xs d → Wx (.ref (P.ca c)) (some d) σ H'
  | .bad => False
def tE (P : Pr) (K : PySem.W.Frag) (Wx : WX) (c : Ex) : TE := fun σ H Q => ∃ μ s, Sim P K μ s σ H ∧ Pst P K Wx μ s σ H (c s) fun r s' μ' H' => ∀ v, RepR P K μ' s' σ H' r v → Frs H r v → Q v H'
def tT (P : Pr) (K : PySem.W.Frag) (Wx : WX) (c : Tm) : TT := fun σ H Q => ∃ μ s, Sim P K μ s σ H ∧ Pst P K Wx μ s σ H (c s) fun b s' μ' H' => Q b H'
def tA (P : Pr) (K : PySem.W.Frag) (Wx : WX) (c : As) : TA := fun σ H Q => ∃ μ s, Sim P K μ s σ H ∧ Pst P K Wx μ s σ H (c s) fun rs s' μ' H' => ∀ vs, RepRs P K μ' s' σ H' rs vs → (∀ a ∈ newsOf rs vs, H a = none) → Q vs H'

section
variable {P : Pr} {K : PySem.W.Frag} {Wx : WX} {μ μ' : List Addr} {s s' : S} {σ : L2.St} {H H' : Hp} {α β : Type}
theorem Pst.mono {x : Res α} {Q Q' : α → S → List Addr → Hp → Prop} (h : Pst P K Wx μ s σ H x Q) (m : ∀ a s' μ' H', Aft P K μ s σ H μ' s' H' → Q a s' μ' H' → Q' a s' μ' H') : Pst P K Wx μ s σ H x Q' := by
  cases x with
  | ok a s' => exact fun μ' H' A => m a s' μ' H' A (h μ' H' A)
  | exc c xs s' => exact h
  | bad => exact h
theorem Pst.bind {x : Res α} {k : α → S → Res β} {Q : β → S → List Addr → Hp → Prop} (h : Pst P K Wx μ s σ H (x.bind k) Q) :
    Pst P K Wx μ s σ H x fun a s1 μ1 H1 => Pst P K Wx μ s σ H (k a s1) Q := by
  cases x with
  | ok a s1 => exact fun _ _ _ => h
  | exc c xs s' => exact h
  | bad => exact h
/-- seen from further on -/
theorem Pst.from {μ1 : List Addr} {s1 : S} {H1 : Hp} {x : Res α} {Q : α → S → List Addr → Hp → Prop} (A : Aft P K μ s σ H μ1 s1 H1) (h : Pst P K Wx μ s σ H x Q) : Pst P K Wx μ1 s1 σ H1 x Q := by
  cases x with
  | ok a s2 => exact fun μ2 H2 B => h μ2 H2 (A.trans B)
  | exc c xs s2 => exact fun μ2 H2 d B e => h μ2 H2 d (A.trans B) e
  | bad => exact h
theorem Pst.ok_self {a : α} {Q : α → S → List Addr → Hp → Prop} (I : Sim P K μ s σ H) (h : Pst P K Wx μ s σ H (.ok a s) Q) : Q a s μ H := h μ H (.refl I)
end
theorem PE_imp {X : Cx} {e : PySem.Expr} {t t' : TE} (h : PE X e t) (i : ∀ σ H Q, t' σ H Q → t σ H Q) : PE X e t' := ⟨fun pins s σ H Q I q => h.run pins s σ H Q I (i σ H Q q)⟩
theorem PT_imp {X : Cx} {e : PySem.Expr} {t t' : TT} (h : PT X e t) (i : ∀ σ H Q, t' σ H Q → t σ H Q) : PT X e t' := ⟨fun pins s σ H Q I q => h.run pins s σ H Q I (i σ H Q q)⟩
theorem PW_imp {X : Cx} {e : PySem.Expr} {t t' : TT} (h : PW X e t) (i : ∀ σ H Q, t' σ H Q → t σ H Q) : PW X e t' := ⟨fun wh pins s σ H Q I q => h.run wh pins s σ H Q I (i σ H Q q)⟩
theorem PA_imp {X : Cx} {e : List PySem.Expr} {t t' : TA} (h : PA X e t) (i : ∀ σ H Q, t' σ H Q → t σ H Q) : PA X e t' := ⟨fun pos pins s σ H Q I q => h.run pos pins s σ H Q I (i σ H Q q)⟩
theorem PS_imp {X : Cx} {e : PySem.Stmt} {t t' : TS} (h : PS X e t) (i : ∀ D σ H, t' D σ H → t D σ H) : PS X e t' := ⟨fun pins s σ H D I q => h.run pins s σ H D I (i D σ H q)⟩
theorem PSs_imp {X : Cx} {e : List PySem.Stmt} {t t' : TS} (h : PSs X e t) (i : ∀ D σ H, t' D σ H → t D σ H) : PSs X e t' := ⟨fun pins s σ H D I q => h.run pins s σ H D I (i D σ H q)⟩
theorem PE_or {X : Cx} {e : PySem.Expr} {t t' : TE} (h : PE X e t) (h' : PE X e t') : PE X e fun σ H Q => t σ H Q ∨ t' σ H Q := ⟨fun pins s σ H Q I q => q.elim (h.run pins s σ H Q I) (h'.run pins s σ H Q I)⟩

section
variable {X : Cx} {P : Pr} {Wx : WX} {pos : Pos} {a b c e : PySem.Expr} {ca cb cc : Ex} {es : List PySem.Expr}
/-! ### constants, names -/
theorem tE_k {K : PySem.W.Frag} {x : D} {v : V} {σ : L2.St} {H : Hp} {Q : VK} (r : RepD K H x v) (h : tE P K Wx (kE x) σ H Q) : Q v H := by
  obtain ⟨μ, s, I, h⟩ := h
  exact Pst.ok_self I h v (.d r) trivial
theorem s_int {i : Int} {j : Nat} : PE X (.Constant (.int i) j pos) (tE P X.K Wx (kE (.int i))) := PE_imp pe_int fun σ H Q h => tE_k (.int i) h
theorem s_bl {i : Bool} {j : Nat} : PE X (.Constant (.bool i) j pos) (tE P X.K Wx (kE (.bl i))) := PE_imp pe_bl fun σ H Q h => tE_k (.bl i) h
theorem s_non {j : Nat} : PE X (.Constant .none j pos) (tE P X.K Wx (kE .non)) := PE_imp pe_non fun σ H Q h => tE_k .non h
theorem s_str {x : PySem.Str} {j : Nat} {l : List Nat} (hx : x = sig l) (hl : ∀ c ∈ l, c < 0x110000) : PE X (.Constant (.str x) j pos) (tE P X.K Wx (kE (.str l))) := PE_imp pe_str fun σ H Q h => tE_k (by rw [hx]; exact .str l hl) h
theorem s_v {i : Nat} {x : PySem.Str} (hN : X.N[i]? = some x) (hv : Vis X.env.scope x) (hd : (x == ("__debug__" : PySem.Str)) = false := by decide) (hcd : (x == ("__classdict__" : PySem.Str)) = false := by decide) :
    PE X (.Name x pos) (tE P X.K Wx (vE i)) := PE_imp (pe_var hN hv hd hcd) fun σ H Q h => by
  obtain ⟨μ, s, I, h⟩ := h
  have h : Pst P X.K Wx μ s σ H (match s.ρ[i]? with
    | some (.w x) => Res.ok (R.w x) s
    | some (.own _) => .ok (.slot i) s
    | _ => .bad) _ := h
  cases q : s.ρ[i]? with
  | none => rw [q] at h; exact h.elim
  | some x =>
    rw [q] at h
    obtain ⟨v, e, r⟩ := paired_get I.env q
    cases x with
    | un => exact h.elim
    | w x =>
      cases v with
      | none => exact r.elim
      | some v => exact ⟨v, e, Pst.ok_self I h v r trivial⟩
    | own o =>
      cases v with
      | none => exact r.elim
      | some v => exact ⟨v, e, Pst.ok_self I h v ⟨e, _, q, rfl⟩ trivial⟩

/-! ### rows -/
theorem s_an : PA X [] (tA P X.K Wx asN) := PA_imp pa_nil fun σ H Q h => by
  obtain ⟨μ, s, I, h⟩ := h
  exact Pst.ok_self I h [] .nil (by simp [newsOf])
theorem s_ac {t : As} (ha : PE X e (tE P X.K Wx ca)) (hr : PA X es (tA P X.K Wx t)) (hs : starEach (e :: es) X.env = (false, eval e X.env) :: starEach es X.env := by rfl) : PA X (e :: es) (tA P X.K Wx (asC ca t)) := PA_imp (pa_cons ha hr hs) fun σ H Q h => by
  obtain ⟨μ, s, I, h⟩ := h
  refine ⟨μ, s, I, (Pst.bind h).mono fun r s1 μ1 H1 A h v rv fv => ?_⟩
  refine ⟨μ1, s1, A.sim, ((Pst.bind h).from A).mono fun rs s2 μ2 H2 B h vs rvs fvs => ?_⟩
  have rv2 := rv.aft A.sim B
  have key : ∀ a, isNew r v a → H a = none ∧ H1 a ≠ none := fun a ⟨⟨o, e1⟩, e2⟩ => by
    subst e1 e2
    obtain ⟨b, e3, q, _⟩ := rv
    cases e3
    exact ⟨fv, q.notup.2.2⟩
  refine h μ2 H2 (A.trans B) (v :: vs) (.cons rv2 rvs fun a ha hm => (key a ha).2 (fvs a hm)) fun a ha => ?_
  cases r with
  | new o =>
    obtain ⟨b, rfl, _, _⟩ := rv
    simp only [newsOf, List.mem_cons] at ha
    rcases ha with rfl | ha
    · exact fv
    · exact A.step.live a (fvs a ha)
  | w x => exact A.step.live a (fvs a (by simpa [newsOf] using ha))
  | slot i => exact A.step.live a (fvs a (by simpa [newsOf] using ha))
theorem SimWs_len {K : PySem.W.Frag} {μ : List Addr} {H : Hp} : ∀ {ws : List W} {vs : List V}, SimWs K μ H ws vs → ws.length = vs.length
  | _, _, .nil => rfl
  | _, _, .cons _ t => by simp [SimWs_len t]
theorem RepDs_of {K : PySem.W.Frag} {μ : List Addr} {H : Hp} : ∀ {ws : List W} {vs : List V} {xs : List D}, SimWs K μ H ws vs → alld ws = some xs → RepDs K H xs vs
  | _, _, xs, .nil, e => by simp [alld] at e; subst e; exact .nil
  | w :: ws, v :: vs, xs, .cons q t, e => by
    cases w with
    | d x =>
      simp only [alld] at e
      cases z : alld ws with
      | none => rw [z] at e; cases e
      | some ys =>
        rw [z] at e
        cases e
        cases q with
        | d q => exact .cons q (RepDs_of t z)
    | ref i => simp [alld] at e
    | scr i => simp [alld] at e
    | tup l => simp [alld] at e
theorem SimWs_of {K : PySem.W.Frag} {μ : List Addr} {H : Hp} : ∀ {xs : List D} {vs : List V}, RepDs K H xs vs → SimWs K μ H (xs.map .d) vs
  | _, _, .nil => .nil
  | _, _, .cons q t => .cons (.d q) (SimWs_of t)
theorem SimW_mkTup {K : PySem.W.Frag} {μ : List Addr} {H : Hp} {ws : List W} {vs : List V} {a : Addr} (r : SimWs K μ H ws vs) (h : SqT K H a vs) : SimW K μ H (mkTup ws) (.ref a) := by
  unfold mkTup
  cases e : alld ws with
  | none => exact .tup h r
  | some xs => exact .d (.tup h (RepDs_of r e))
/-- a value's items, by the tuple that it is -/
theorem SimW_items {K : PySem.W.Frag} {μ : List Addr} {H : Hp} {w : W} {v : V} {ws : List W} (r : SimW K μ H w v) (e : w.items = some ws) : ∃ a vs, v = .ref a ∧ SqT K H a vs ∧ SimWs K μ H ws vs := by
  cases r with
  | d r => cases r <;> first | (simp [W.items] at e; done) | skip
           rename_i a vs ds h t
           simp only [W.items, Option.some.injEq] at e
           subst e
           exact ⟨a, vs, rfl, h, SimWs_of t⟩
  | ref _ => simp [W.items] at e
  | scr _ => simp [W.items] at e
  | tup h t =>
    simp only [W.items, Option.some.injEq] at e
    subst e
    exact ⟨_, _, rfl, h, t⟩
/-- a new tuple of what a row gave -/
theorem newTup {K : PySem.W.Frag} {μ : List Addr} {s : S} {σ : L2.St} {H : Hp} {ws : List W} {vs : List V} {p : Addr} (I : Sim P K μ s σ H) (r : SimWs K μ H ws vs) (hp : H p = none) :
    Aft P K μ s σ H μ s (upd H p (.tup vs)) ∧ SimW K μ (upd H p (.tup vs)) (mkTup ws) (.ref p) := by
  have A := I.alloc (o := .tup vs) hp
  exact ⟨A, SimW_mkTup (r.mono (A.tups I) A.pre) (.inl (.inl upd_same))⟩
theorem newLst {K : PySem.W.Frag} {μ : List Addr} {s : S} {σ : L2.St} {H : Hp} {ws : List W} {vs : List V} {p : Addr} (I : Sim P K μ s σ H) (r : SimWs K μ H ws vs) (hp : H p = none) :
    Aft P K μ s σ H μ s (upd H p (.lst vs)) ∧ RepR P K μ s σ (upd H p (.lst vs)) (.new (.lst ws)) (.ref p) := by
  have A := I.alloc (o := .lst vs) hp
  exact ⟨A, p, rfl, ⟨vs, upd_same, r.mono (A.tups I) A.pre⟩, fun z => (I.notup z).2.2 hp⟩
theorem LN_eq : LN = sizeLine := by rw [sizeLine_eq]
theorem s_tup {t : As} {x1} (h : PA X es (tA P X.K Wx t)) : PE X (.Tuple es x1 pos) (tE P X.K Wx (tupE t)) := PE_imp (pe_tup h) fun σ H Q h => by
  obtain ⟨μ, s, I, h⟩ := h
  refine ⟨μ, s, I, (Pst.bind h).mono fun rs s1 μ1 H1 A h vs rvs fvs => ?_⟩
  cases q : boxes rs s1 with
  | none => rw [q] at h; exact h.elim
  | some y =>
    obtain ⟨ws, s2⟩ := y
    rw [q] at h
    obtain ⟨μ2, B, r⟩ := A.sim.boxesOk rvs q
    have A2 := B.aft A fvs
    by_cases hl : ws.length ≤ LN
    · simp only [hl, if_true] at h
      refine ⟨by rw [← SimWs_len r, ← LN_eq]; exact hl, fun p hp => ?_⟩
      obtain ⟨A3, r3⟩ := newTup A2.sim r hp
      exact h μ2 _ (A2.trans A3) _ r3 trivial
    · simp only [hl, if_false] at h
      exact h.elim
theorem s_lst {t : As} (h : PA X es (tA P X.K Wx t)) : PE X (.List es pos) (tE P X.K Wx (lstE t)) := PE_imp (pe_lst h) fun σ H Q h => by
  obtain ⟨μ, s, I, h⟩ := h
  refine ⟨μ, s, I, (Pst.bind h).mono fun rs s1 μ1 H1 A h vs rvs fvs => ?_⟩
  cases q : boxes rs s1 with
  | none => rw [q] at h; exact h.elim
  | some y =>
    obtain ⟨ws, s2⟩ := y
    rw [q] at h
    obtain ⟨μ2, B, r⟩ := A.sim.boxesOk rvs q
    have A2 := B.aft A fvs
    by_cases hl : ws.length ≤ LN
    · simp only [hl, if_true] at h
      refine ⟨by rw [← SimWs_len r, ← LN_eq]; exact hl, fun p hp => ?_⟩
      obtain ⟨A3, r3⟩ := newLst A2.sim r hp
      exact h μ2 _ (A2.trans A3) _ r3 (A2.step.live p hp)
    · simp only [hl, if_false] at h
      exact h.elim
theorem s_dct : PE X (.Dict [] [] pos) (tE P X.K Wx dctE) := PE_imp pe_dnewK fun σ H Q h => by
  obtain ⟨μ, s, I, h⟩ := h
  intro p hp
  have A := I.alloc (o := .dK []) hp
  exact h μ _ A _ ⟨p, rfl, ⟨[], upd_same, .nil⟩, fun z => (I.notup z).2.2 hp⟩ hp
end

/-! ### operators -/
def OpS (P : Pr) (K : PySem.W.Frag) (rr : R2) (f : S → R → R → Option R) : Prop := ∀ (μ : List Addr) (s : S) (σ : L2.St) (H : Hp) (x y : R) (v1 v2 : V) (r : R) (Q : VK), Sim P K μ s σ H → RepR P K μ s σ H x v1 → RepR P K μ s σ H y v2 → f s x y = some r →
  (∀ μ' H' v, Aft P K μ s σ H μ' s H' → RepR P K μ' s σ H' r v → Frs H r v → Q v H') → rr v1 v2 H Q
section
variable {X : Cx} {P : Pr} {Wx : WX} {pos : Pos} {a b c e : PySem.Expr} {ca cb cc : Ex} {es : List PySem.Expr} {f g : S → R → R → Option R} {rr rr' : R2}
theorem tOp_of {K : PySem.W.Frag} (hf : OpS P K rr f) {σ : L2.St} {H : Hp} {Q : VK} (h : tE P K Wx (op2 f ca cb) σ H Q) : tOp rr (tE P K Wx ca) (tE P K Wx cb) σ H Q := by
  obtain ⟨μ, s, I, h⟩ := h
  refine ⟨μ, s, I, (Pst.bind h).mono fun x s1 μ1 H1 A h v1 r1 f1 => ?_⟩
  refine ⟨μ1, s1, A.sim, ((Pst.bind h).from A).mono fun y s2 μ2 H2 B h v2 r2 f2 => ?_⟩
  cases q : f s2 x y with
  | none => rw [q] at h; exact h.elim
  | some r =>
    rw [q] at h
    exact hf μ2 s2 σ H2 x y v1 v2 r Q B.sim (r1.aft A.sim B) r2 q fun μ' H' v C r3 f3 => h μ' H' ((A.trans B).trans C) v r3 (f3.back (A.trans B).step.live)
theorem s_op {op : Operator} (ho : OpR X (binaryOp op) rr) (hf : OpS P X.K rr f) (ha : PE X a (tE P X.K Wx ca)) (hb : PE X b (tE P X.K Wx cb)) : PE X (.BinOp a op b pos) (tE P X.K Wx (op2 f ca cb)) :=
  PE_imp (pe_op ho ha hb) fun _ _ _ h => tOp_of hf h
theorem s_cmp {op : CmpOp} (ho : OpR X (compareOp op) rr) (hf : OpS P X.K rr f) (ha : PE X a (tE P X.K Wx ca)) (hb : PE X b (tE P X.K Wx cb)) (hm : behindInMarks op b = false) : PE X (.Compare a [op] [b] pos) (tE P X.K Wx (op2 f ca cb)) :=
  PE_imp (pe_cmpR ho ha hb hm) fun _ _ _ h => tOp_of hf h
end
section
variable {P : Pr} {K : PySem.W.Frag} {μ : List Addr} {s : S} {σ : L2.St} {H : Hp}
theorem rep_int {i : Int} {v : V} (h : RepR P K μ s σ H (iR i) v) : v = .int i := by
  cases (show SimW K μ H (.d (.int i)) v from h) with
  | d q => cases q; rfl
theorem rep_str {i : List Nat} {v : V} (h : RepR P K μ s σ H (.w (.d (.str i))) v) : v = .str (sig i) ∧ ∀ c ∈ i, c < 0x110000 := by
  cases (show SimW K μ H (.d (.str i)) v from h) with
  | d q => cases q; exact ⟨rfl, by assumption⟩
theorem rep_bl {i : Bool} {v : V} (h : RepR P K μ s σ H (bR i) v) : v = .bl i := by
  cases (show SimW K μ H (.d (.bl i)) v from h) with
  | d q => cases q; rfl
theorem rep_iR {i : Int} : RepR P K μ s σ H (iR i) (.int i) := SimW.d (.int i)
theorem rep_bR {i : Bool} : RepR P K μ s σ H (bR i) (.bl i) := SimW.d (.bl i)
/-- where an object's result stands -/
theorem Sim.obj (I : Sim P K μ s σ H) {r : R} {v : V} {o : O} (h : RepR P K μ s σ H r v) (e : objR s r = some o) : ∃ a, v = .ref a ∧ SimO P K μ H o a ∧ (∀ x, locR s r = some x → AtS μ s σ x a ∧ getO s x = some o) := by
  cases r with
  | new o' =>
    cases (show some o' = some o from e)
    obtain ⟨a, e1, q, _⟩ := h
    exact ⟨a, e1, q, fun x z => nomatch (show (none : Option Src) = some x from z)⟩
  | w x =>
    cases x with
    | d x => exact nomatch (show (none : Option O) = some o from e)
    | scr x => exact nomatch (show (none : Option O) = some o from e)
    | tup x => exact nomatch (show (none : Option O) = some o from e)
    | ref j =>
      have e1 : s.h[j]? = some o := e
      cases (show SimW K μ H (.ref j) v from h) with
      | @ref _ a ea =>
        obtain ⟨b, eb, q⟩ := paired_get I.heap e1
        rw [ea] at eb
        cases eb
        exact ⟨a, rfl, q, fun x z => by cases (show some (Src.hp j) = some x from z); exact ⟨ea, e1⟩⟩
  | slot i =>
    obtain ⟨h1, e0, h2, h3⟩ := h
    obtain ⟨v', hv, q⟩ := paired_get I.env h2
    rw [h1] at hv
    cases hv
    have e : (match (match s.ρ[i]? with
        | some (.own _) => some (Src.sl i)
        | some (.w (.ref j)) => some (.hp j)
        | _ => none) with
      | some x => getO s x
      | none => none) = some o := e
    have L : locR s (.slot i) = (match s.ρ[i]? with
        | some (.own _) => some (Src.sl i)
        | some (.w (.ref j)) => some (.hp j)
        | _ => none) := rfl
    rw [h2] at e
    rw [L, h2]
    cases e0 with
    | un => cases h3
    | own o' =>
      have g : getO s (.sl i) = some o' := by
        show (match s.ρ[i]? with | some (.own o) => some o | _ => none) = _
        rw [h2]
      have e : getO s (.sl i) = some o := e
      rw [g] at e
      cases e
      cases v <;> first | exact q.elim | skip
      exact ⟨_, rfl, q, fun x z => by cases z; exact ⟨⟨⟨_, h2⟩, h1⟩, g⟩⟩
    | w x =>
      cases x with
      | d x => cases e
      | tup x => cases e
      | scr x => cases e
      | ref j =>
        have e1 : s.h[j]? = some o := e
        cases (show SimW K μ H (.ref j) v from q) with
        | @ref _ a ea =>
          obtain ⟨b, eb, q⟩ := paired_get I.heap e1
          rw [ea] at eb
          cases eb
          exact ⟨a, rfl, q, fun x z => by cases z; exact ⟨ea, e1⟩⟩
/-- a sequence's items -/
theorem Sim.seq (I : Sim P K μ s σ H) {r : R} {v : V} {k : Bool} {ws : List W} (h : RepR P K μ s σ H r v) (e : seqR s r = some (k, ws)) :
    ∃ a vs, v = .ref a ∧ SimWs K μ H ws vs ∧ (if k then H a = some (.lst vs) else SqT K H a vs) := by
  have viaO : ∀ {r : R}, RepR P K μ s σ H r v → (match objR s r with | some (.lst ws) => some (true, ws) | _ => none) = some (k, ws) → ∃ a vs, v = .ref a ∧ SimWs K μ H ws vs ∧ (if k then H a = some (.lst vs) else SqT K H a vs) := fun {r} h e => by
    cases q : objR s r with
    | none => rw [q] at e; cases e
    | some o =>
      rw [q] at e
      cases o with
      | lst ws' =>
        cases e
        obtain ⟨a, e1, ⟨vs, e2, rr⟩, _⟩ := I.obj h q
        exact ⟨a, vs, e1, rr, e2⟩
      | dct _ _ => cases e
      | ins _ _ => cases e
  cases r with
  | new o => exact viaO h e
  | slot i => exact viaO h e
  | w x =>
    cases x with
    | ref j => exact viaO h e
    | scr x => exact viaO (r := .w (.scr x)) h e
    | tup ws' =>
      cases (show some (false, ws') = some (k, ws) from e)
      obtain ⟨a, vs, e1, e2, e3⟩ := SimW_items (w := .tup ws) h rfl
      exact ⟨a, vs, e1, e3, e2⟩
    | d x =>
      cases x with
      | tup xs =>
        cases (show some (false, xs.map W.d) = some (k, ws) from e)
        obtain ⟨a, vs, e1, e2, e3⟩ := SimW_items (w := .d (.tup xs)) h rfl
        exact ⟨a, vs, e1, e3, e2⟩
      | non => exact viaO (r := .w (.d .non)) h e
      | bl b => exact viaO (r := .w (.d (.bl b))) h e
      | int i => exact viaO (r := .w (.d (.int i))) h e
      | str i => exact viaO (r := .w (.d (.str i))) h e
theorem SimWs.append : ∀ {xs ys : List W} {us vs : List V}, SimWs K μ H xs us → SimWs K μ H ys vs → SimWs K μ H (xs ++ ys) (us ++ vs)
  | _, _, _, _, .nil, h => h
  | _, _, _, _, .cons q t, h => .cons q (SimWs.append t h)
theorem SimWs.rep {xs : List W} {us : List V} (h : SimWs K μ H xs us) : ∀ k : Nat, SimWs K μ H (List.replicate k xs).flatten (List.replicate k us).flatten
  | 0 => .nil
  | k + 1 => by
    rw [List.replicate_succ, List.replicate_succ, List.flatten_cons, List.flatten_cons]
    exact SimWs.append h (SimWs.rep h k)
theorem SimWs.map_d {xs : List D} {vs : List V} (h : SimWs K μ H (xs.map W.d) vs) : RepDs K H xs vs := RepDs_of h (alld_map xs)
theorem sig_app (a b : List Nat) : sig (a ++ b) = sig a ++ sig b := by
  show (⟨(a ++ b).toArray⟩ : PySem.Str) = ⟨a.toArray ++ b.toArray⟩
  simp
theorem sig_len (a : List Nat) : (sig a).length = a.length := by simp [PySem.Str.length]
end
def rAdd4 (K : PySem.W.Frag) : R2 := fun x y H Q => rI0 (fun i j => .int (i + j)) x y H Q ∨ (∃ i j, x = .str i ∧ y = .str j ∧ i.length + j.length ≤ sizeLine ∧ Q (.str (i ++ j)) H) ∨ rCatA K x y H Q ∨ rCat x y H Q
theorem op_add4 {X : Cx} : OpR X (binaryOp .Add) (rAdd4 X.K) := op_add.or (op_add_str.or (op_catA.or op_cat))
/-- a sum of tuples -/
theorem catA_of {P : Pr} {K : PySem.W.Frag} {μ : List Addr} {s : S} {σ : L2.St} {H : Hp} {Q : VK} {a b : Addr} {us vs : List V} {xs ys : List W} (I : Sim P K μ s σ H) (ha : SqT K H a us) (hb : SqT K H b vs) (ra : SimWs K μ H xs us) (rb : SimWs K μ H ys vs)
    (hl : us.length + vs.length ≤ sizeLine) (h : ∀ μ' H' v, Aft P K μ s σ H μ' s H' → RepR P K μ' s σ H' (.w (mkTup (xs ++ ys))) v → Frs H (.w (mkTup (xs ++ ys))) v → Q v H') : rCatA K (.ref a) (.ref b) H Q := by
  refine ⟨a, b, us, vs, rfl, rfl, ha, hb, hl, fun e => ?_, fun _ e => ?_, fun _ _ p hp => ?_⟩
  · subst e
    cases ra
    exact h μ H _ (.refl I) (SimW_mkTup rb hb) trivial
  · subst e
    cases rb
    exact h μ H _ (.refl I) (by rw [List.append_nil]; exact SimW_mkTup ra ha) trivial
  · obtain ⟨A, r⟩ := newTup I (ra.append rb) hp
    exact h μ _ _ A r trivial
theorem add_S {P : Pr} {K : PySem.W.Frag} : OpS P K (rAdd4 K) addV := fun μ s σ H x y v1 v2 r Q I h1 h2 e h => by
  have general : ∀ {x y : R}, RepR P K μ s σ H x v1 → RepR P K μ s σ H y v2 → (match seqR s x, seqR s y with
      | some (false, a), some (false, b) => if a.length + b.length ≤ LN then some (R.w (mkTup (a ++ b))) else none
      | some (true, a), some (true, b) => if a.length + b.length ≤ LN then some (R.new (.lst (a ++ b))) else none
      | _, _ => none) = some r → rAdd4 K v1 v2 H Q := fun {x y} h1 h2 e => by
    cases qx : seqR s x with
    | none => rw [qx] at e; cases e
    | some kx =>
      obtain ⟨k1, ws1⟩ := kx
      cases qy : seqR s y with
      | none => rw [qx, qy] at e; cases k1 <;> cases e
      | some ky =>
        obtain ⟨k2, ws2⟩ := ky
        rw [qx, qy] at e
        obtain ⟨a, us, rfl, ra, ha⟩ := I.seq h1 qx
        obtain ⟨b, vs, rfl, rb, hb⟩ := I.seq h2 qy
        have la := SimWs_len ra
        have lb := SimWs_len rb
        cases k1 with
        | false =>
          cases k2 with
          | true => cases e
          | false =>
            by_cases hl : ws1.length + ws2.length ≤ LN
            · simp only [hl, if_true, Option.some.injEq] at e
              subst e
              exact .inr (.inr (.inl (catA_of I ha hb ra rb (by rw [← la, ← lb, ← LN_eq]; exact hl) h)))
            · simp only [hl, if_false] at e; cases e
        | true =>
          cases k2 with
          | false => cases e
          | true =>
            by_cases hl : ws1.length + ws2.length ≤ LN
            · simp only [hl, if_true, Option.some.injEq] at e
              subst e
              refine .inr (.inr (.inr ⟨a, b, us, vs, rfl, rfl, ha, hb, by rw [← la, ← lb, ← LN_eq]; exact hl, fun p hp => ?_⟩))
              obtain ⟨A, rr⟩ := newLst I (ra.append rb) hp
              exact h μ _ _ A rr hp
            · simp only [hl, if_false] at e; cases e
  unfold addV at e
  split at e
  · rename_i i j
    cases e
    rw [rep_int h1, rep_int h2]
    exact .inl ⟨i, j, rfl, rfl, h μ H _ (.refl I) rep_iR trivial⟩
  · rename_i i j
    split at e
    · cases e
      obtain ⟨e1, o1⟩ := rep_str h1
      obtain ⟨e2, o2⟩ := rep_str h2
      rw [e1, e2]
      refine .inr (.inl ⟨_, _, rfl, rfl, by rw [sig_len, sig_len, ← LN_eq]; assumption, ?_⟩)
      rw [← sig_app]
      exact h μ H _ (.refl I) (SimW.d (.str _ fun c hc => (List.mem_append.mp hc).elim (o1 c) (o2 c))) trivial
    · cases e
  · rename_i i j
    refine general h1 h2 ?_
    show (if (i.map W.d).length + (j.map W.d).length ≤ LN then some (R.w (mkTup (i.map W.d ++ j.map W.d))) else none) = some r
    rw [← List.map_append, mkTup_map, List.length_map, List.length_map]
    exact e
  · exact general h1 h2 e
theorem int2_S {P : Pr} {K : PySem.W.Frag} {f : S → R → R → Option R} {C : Int → Int → Prop} {g : Int → Int → D} {gv : Int → Int → V} (hg : ∀ i j H, RepD K H (g i j) (gv i j))
    (hf : ∀ s x y r, f s x y = some r → ∃ i j, x = iR i ∧ y = iR j ∧ C i j ∧ r = .w (.d (g i j))) : OpS P K (rI C gv) f := fun μ s σ H x y v1 v2 r Q I h1 h2 e h => by
  obtain ⟨i, j, rfl, rfl, hc, rfl⟩ := hf s x y r e
  rw [rep_int h1, rep_int h2]
  exact ⟨i, j, rfl, rfl, hc, h μ H _ (.refl I) (SimW.d (hg i j H)) trivial⟩
theorem sub_S {P : Pr} {K : PySem.W.Frag} : OpS P K (rI (fun _ _ => True) fun i j => .int (i - j)) subV := int2_S (g := fun i j => .int (i - j)) (fun _ _ _ => .int _) fun s x y r e => by
  unfold subV at e
  split at e <;> cases e
  exact ⟨_, _, rfl, rfl, trivial, rfl⟩
theorem op_subC {X : Cx} : OpR X (binaryOp .Sub) (rI (fun _ _ => True) fun i j => .int (i - j)) := opI fun _ _ _ _ _ _ _ _ q => sub_int q
theorem mod_S {P : Pr} {K : PySem.W.Frag} : OpS P K (rI (fun _ j => 0 < j) fun i j => .int (i % j)) modV := int2_S (g := fun i j => .int (i % j)) (fun _ _ _ => .int _) fun s x y r e => by
  unfold modV at e
  split at e <;> first | (cases e; done) | skip
  split at e <;> cases e
  exact ⟨_, _, rfl, rfl, by assumption, rfl⟩
theorem div_S {P : Pr} {K : PySem.W.Frag} : OpS P K (rI CDivW fun i j => .int (i / j)) divV := int2_S (g := fun i j => .int (i / j)) (fun _ _ _ => .int _) fun s x y r e => by
  unfold divV at e
  split at e <;> first | (cases e; done) | skip
  split at e <;> cases e
  exact ⟨_, _, rfl, rfl, by assumption, rfl⟩
theorem pow_S {P : Pr} {K : PySem.W.Frag} : OpS P K (rI CPow fun i j => .int (i ^ j.toNat)) powV := int2_S (g := fun i j => .int (i ^ j.toNat)) (fun _ _ _ => .int _) fun s x y r e => by
  unfold powV at e
  split at e <;> first | (cases e; done) | skip
  split at e <;> cases e
  exact ⟨_, _, rfl, rfl, by assumption, rfl⟩
theorem shl_S {P : Pr} {K : PySem.W.Frag} : OpS P K (rI CPow fun i j => .int (i * 2 ^ j.toNat)) shlV := int2_S (g := fun i j => .int (i * 2 ^ j.toNat)) (fun _ _ _ => .int _) fun s x y r e => by
  unfold shlV at e
  split at e <;> first | (cases e; done) | skip
  split at e <;> cases e
  exact ⟨_, _, rfl, rfl, by assumption, rfl⟩
/-- t * 1 is t; so is () * k -/
theorem tuple_mul1 (l : Addr) (items : Array Value) (n : Nat) (dd : Option Addr) (sl : Array (Option Value)) (x : Int) (u : Tok) (c0 : (decide (x < -(2 ^ 63)) || decide (x ≥ 2 ^ 63)) = false) (c1 : (items.isEmpty || x == 1) = true) :
    Meets (Builtin.«tuple.__mul__» ⟨[.ref l, .int x u], []⟩) (fun _ R s => s.heap.get? l = some { cls := .type "tuple", dict := dd, data := .seq items n, slots := sl } ∧ R (.ok (.ret (Value.ref l))) s) :=
  .of_wp fun prog w A R s h => by
    obtain ⟨hp, g, d, tk, os⟩ := s
    obtain ⟨hl, h⟩ := h
    have f1 := AutoSeq1.idx_int
    wp_walk using wpAny_loadPart' hl
    repeat (first
      | (refine wpAny_ite_false (decide_eq_false (by rw [c0]; exact Bool.false_ne_true)) ?_; wp_walk using wpAny_loadPart' hl)
      | (rw [c1]; wp_walk using wpAny_loadPart' hl))
    exact ⟨_, rfl, h⟩
theorem tuple_mul0 (l : Addr) (items : Array Value) (n : Nat) (dd : Option Addr) (sl : Array (Option Value)) (x : Int) (u : Tok) (c0 : (decide (x < -(2 ^ 63)) || decide (x ≥ 2 ^ 63)) = false) (c1 : (items.isEmpty || x == 1) = false) (c2 : (decide (x ≤ 0) || items.isEmpty) = true) :
    Meets (Builtin.«tuple.__mul__» ⟨[.ref l, .int x u], []⟩) (fun _ R s => s.heap.get? l = some { cls := .type "tuple", dict := dd, data := .seq items n, slots := sl } ∧ R (.ok (.ret (Value.ref s.heap.objs.size))) { s with heap := s.heap.push { cls := Value.type "tuple", data := Data.seq #[] }, toks := s.toks }) :=
  .of_wp fun prog w A R s h => by
    obtain ⟨hp, g, d, tk, os⟩ := s
    obtain ⟨hl, h⟩ := h
    have f1 := AutoSeq1.idx_int
    wp_walk using wpAny_loadPart' hl
    repeat (first
      | (refine wpAny_ite_false (decide_eq_false (by rw [c0]; exact Bool.false_ne_true)) ?_; wp_walk using wpAny_loadPart' hl)
      | (refine wpAny_ite_false (decide_eq_false (by rw [c1]; exact Bool.false_ne_true)) ?_; wp_walk using wpAny_loadPart' hl)
      | (rw [c2]; wp_walk using wpAny_loadPart' hl))
    exact ⟨_, rfl, h⟩
def rRepA (K : PySem.W.Frag) : R2 := fun x y H Q => ∃ l k xs, x = .ref l ∧ y = .int k ∧ SqT K H l xs ∧ -1000 ≤ k ∧ k ≤ 1000 ∧ xs.length ≤ 1000 ∧ (xs = [] ∨ k = 1 → Q (.ref l) H) ∧ (xs ≠ [] → k ≠ 1 → ∀ p, H p = none → Q (.ref p) (upd H p (.tup (List.replicate k.toNat xs).flatten)))
theorem op_repA {X : Cx} : OpR X (binaryOp .Mult) (rRepA X.K) := by
  intro pins s σ H x y v u Q I rx ry h
  obtain ⟨l, k, xs, rfl, rfl, hT, h1, h2, hz, q1, q2⟩ := h
  by_cases hbig : xs ≠ [] ∧ 2 ≤ k
  · exact op_repT pins s σ H _ _ v u Q I rx ry ⟨l, k, xs, rfl, rfl, hT, hbig.1, hbig.2, h2, hz, q2 hbig.1 (by omega)⟩
  cases rx
  obtain ⟨t, rfl⟩ := ry
  obtain ⟨its, r, ⟨⟨cls, dd, data, sl⟩, ho, hc, n, hd⟩, hs⟩ := I.tuple hT
  simp only at hc hd
  subst hc hd
  have hle : its.length = xs.length := r.length.symm
  have c0 : (decide (k < -(2 ^ 63)) || decide (k ≥ 2 ^ 63)) = false := by
    rw [decide_eq_false (by omega), decide_eq_false (by omega)] <;> rfl
  by_cases hk : xs = [] ∨ k = 1
  · have c1 : (its.toArray.isEmpty || k == 1) = true := by
      rcases hk with hk | hk
      · subst hk
        cases its with
        | nil => rfl
        | cons a b => simp at hle
      · subst hk; simp
    exact wpAny_binaryOp_repeat_ref (T := "tuple") (U := "int") (by decide) ⟨_, ho, rfl⟩ (fun s' => typeIs_int s' k t) noFill_tuple_mul F.fills_int_mul F.slot_int_rmul repeat_tuple F.slot_int_index.lookup
      (call_meets F.slot_int_rmul (typeIs_int s k t) F.entry_int_rmul (F.args_int_rmul_2 _ _) (int_rmul_tuple k t l its.toArray n dd sl)
        ⟨ho, rfl, ⟨_, ho, rfl⟩, call_meets F.slot_tuple_mul ⟨_, ho, rfl⟩ F.entry_tuple_mul (F.args_tuple_mul_2 _ _) (tuple_mul1 l its.toArray n dd sl k t c0 c1) ⟨ho, ⟨.ref l, H, I, rfl, q1 hk⟩⟩⟩)
  · have hx : xs ≠ [] := fun z => hk (.inl z)
    have hk1 : k ≠ 1 := fun z => hk (.inr z)
    have hk0 : k ≤ 0 := by
      by_cases z : 2 ≤ k
      · exact absurd ⟨hx, z⟩ hbig
      · omega
    have hi : its.toArray.isEmpty = false := by
      cases its with
      | nil => exact absurd (List.eq_nil_of_length_eq_zero (by simpa using hle.symm)) hx
      | cons a b => rfl
    have c1 : (its.toArray.isEmpty || k == 1) = false := by
      rw [hi, Bool.false_or]
      exact beq_eq_false_iff_ne.mpr hk1
    have c2 : (decide (k ≤ 0) || its.toArray.isEmpty) = true := by rw [decide_eq_true hk0]; rfl
    refine wpAny_binaryOp_repeat_ref (T := "tuple") (U := "int") (by decide) ⟨_, ho, rfl⟩ (fun s' => typeIs_int s' k t) noFill_tuple_mul F.fills_int_mul F.slot_int_rmul repeat_tuple F.slot_int_index.lookup
      (call_meets F.slot_int_rmul (typeIs_int s k t) F.entry_int_rmul (F.args_int_rmul_2 _ _) (int_rmul_tuple k t l its.toArray n dd sl)
        ⟨ho, rfl, ⟨_, ho, rfl⟩, call_meets F.slot_tuple_mul ⟨_, ho, rfl⟩ F.entry_tuple_mul (F.args_tuple_mul_2 _ _) (tuple_mul0 l its.toArray n dd sl k t c0 c1 c2) ⟨ho, ?_⟩⟩)
    have e0 : (List.replicate k.toNat xs).flatten = [] := by
      have : k.toNat = 0 := by omega
      rw [this]; rfl
    have q := q2 hx hk1
    rw [e0] at q
    exact ⟨.ref s.heap.objs.size, _, I.laid (t' := s.toks) (o := .tup []) (fun b ob q => Heap.get?_push_of_some _ q) (Nat.le_refl _) ⟨Nat.zero_le _, [], .nil, IsTup.new _ _⟩, rfl, q _ (I.hok.fresh (Nat.le_refl _))⟩

def rMul4 (K : PySem.W.Frag) : R2 := fun x y H Q => rI CMul (fun i j => .int (i * j)) x y H Q ∨ rI CMulW (fun i j => .int (i * j)) x y H Q ∨ rRepA K x y H Q ∨ rRep x y H Q
theorem op_mul4 {X : Cx} : OpR X (binaryOp .Mult) (rMul4 X.K) := op_mul.or (op_mulW.or (op_repA.or op_rep))
theorem mulOk_of {i j : Int} (h : mulOk i j = true) : CMul i j ∨ CMulW i j := by
  unfold mulOk at h
  simp only [Bool.or_eq_true, decide_eq_true_eq] at h
  rcases h with (h | h) | h
  · exact .inl (.inl ⟨by omega, by omega⟩)
  · exact .inl (.inr ⟨by omega, by omega⟩)
  · exact .inr h
theorem RepDs_len {K : PySem.W.Frag} {H : Hp} {xs : List D} {vs : List V} (h : RepDs K H xs vs) : xs.length = vs.length := by
  have := SimWs_len (SimWs_of (μ := []) h)
  simpa using this
theorem flatten_map {α β : Type} (f : α → β) (l : List α) : ∀ k : Nat, ((List.replicate k l).flatten).map f = (List.replicate k (l.map f)).flatten
  | 0 => rfl
  | k + 1 => by rw [List.replicate_succ, List.replicate_succ, List.flatten_cons, List.flatten_cons, List.map_append, flatten_map f l k]
theorem mul_S {P : Pr} {K : PySem.W.Frag} : OpS P K (rMul4 K) mulV := fun μ s σ H x y v1 v2 r Q I h1 h2 e h => by
  unfold mulV at e
  split at e
  · rename_i i j
    split at e <;> cases e
    rename_i hm
    rw [rep_int h1, rep_int h2]
    have q := h μ H _ (.refl I) (rep_iR (i := i * j)) trivial
    rcases mulOk_of hm with z | z
    · exact .inl ⟨i, j, rfl, rfl, z, q⟩
    · exact .inr (.inl ⟨i, j, rfl, rfl, z, q⟩)
  · rename_i a k
    split at e <;> cases e
    rename_i hm
    rw [rep_int h2]
    obtain ⟨p, vs, rfl, rs, hp⟩ := I.seq (r := .w (.d (.tup a))) h1 rfl
    have hl : a.length = vs.length := by simpa using SimWs_len rs
    refine .inr (.inr (.inl ⟨p, k, vs, rfl, rfl, hp, hm.1, hm.2.1, by omega, fun z => ?_, fun z1 z2 q hq => ?_⟩))
    · refine h μ H _ (.refl I) ?_ trivial
      have e1 : (List.replicate k.toNat a).flatten = a := by
        rcases z with z | z
        · subst z
          have : a = [] := List.eq_nil_of_length_eq_zero (by simpa using hl)
          subst this
          simp
        · subst z; simp
      rw [e1]
      exact h1
    · obtain ⟨A, r3⟩ := newTup I (rs.rep k.toNat) hq
      rw [← flatten_map, mkTup_map] at r3
      exact h μ _ _ A r3 trivial
  · rename_i k _ _
    cases q : objR s x with
    | none => rw [q] at e; cases e
    | some o =>
      rw [q] at e
      cases o with
      | dct _ _ => cases e
      | ins _ _ => cases e
      | lst ws =>
        simp only at e
        split at e <;> cases e
        rename_i hm
        obtain ⟨p, rfl, ⟨vs, e2, rs⟩, _⟩ := I.obj h1 q
        rw [rep_int h2]
        refine .inr (.inr (.inr ⟨p, k, vs, rfl, rfl, e2, hm.1, hm.2.1, by rw [← SimWs_len rs, ← LN_eq]; exact hm.2.2, fun b hb => ?_⟩))
        obtain ⟨A, r3⟩ := newLst I (rs.rep k.toNat) hb
        exact h μ _ _ A r3 hb
  · cases e

/-! ### comparisons -/
theorem cmpI_S {P : Pr} {K : PySem.W.Frag} {p : Int → Int → Bool} {gv : Int → Int → V} (hg : ∀ i j, gv i j = .bl (p i j)) : OpS P K (rI0 gv) (cmpI p) := fun μ s σ H x y v1 v2 r Q I h1 h2 e h => by
  unfold cmpI at e
  split at e <;> cases e
  rename_i i j
  rw [rep_int h1, rep_int h2]
  refine ⟨i, j, rfl, rfl, ?_⟩
  rw [hg]
  exact h μ H _ (.refl I) rep_bR trivial
def rIsN2 : R2 := fun x y H Q => y = .non ∧ Q (.bl (decide (x = .non))) H
def rNotN2 : R2 := fun x y H Q => y = .non ∧ Q (.bl (!decide (x = .non))) H
theorem isNon_of {P : Pr} {K : PySem.W.Frag} {μ : List Addr} {s : S} {σ : L2.St} {H : Hp} {x : R} {v : V} (I : Sim P K μ s σ H) (h : RepR P K μ s σ H x v) : decide (v = .non) = isNon x := by
  cases x with
  | w x =>
    cases (show SimW K μ H x v from h) with
    | d q => cases q <;> rfl
    | ref _ => rfl
    | tup _ _ => rfl
    | scr _ => rfl
  | new o =>
    obtain ⟨a, rfl, _⟩ := h
    rfl
  | slot i =>
    obtain ⟨h1, e, h2, h3⟩ := h
    obtain ⟨v', hv, q⟩ := paired_get I.env h2
    rw [h1] at hv
    cases hv
    cases e with
    | un => cases h3
    | own o => cases v <;> first | exact q.elim | rfl
    | w x =>
      cases x with
      | d _ => cases h3
      | tup _ => cases h3
      | scr _ => cases h3
      | ref j => cases (show SimW K μ H (.ref j) v from q); rfl
theorem is_S {P : Pr} {K : PySem.W.Frag} : OpS P K rIsN2 isV := fun μ s σ H x y v1 v2 r Q I h1 h2 e h => by
  unfold isV at e
  split at e <;> cases e
  rename_i hy
  refine ⟨of_decide_eq_true ((isNon_of I h2).trans hy), ?_⟩
  rw [isNon_of I h1]
  exact h μ H _ (.refl I) rep_bR trivial
theorem isnt_S {P : Pr} {K : PySem.W.Frag} : OpS P K rNotN2 isntV := fun μ s σ H x y v1 v2 r Q I h1 h2 e h => by
  unfold isntV at e
  split at e <;> cases e
  rename_i hy
  refine ⟨of_decide_eq_true ((isNon_of I h2).trans hy), ?_⟩
  rw [isNon_of I h1]
  exact h μ H _ (.refl I) rep_bR trivial
mutual
def D.py : D → PyData
  | .non => .none
  | .bl b => .bool b
  | .int i => .int i
  | .str s => .str (sig s)
  | .tup xs => .tuple (D.pys xs)
def D.pys : List D → List PyData
  | [] => []
  | x :: xs => D.py x :: D.pys xs
end
theorem sig_inj {a b : List Nat} : (sig a == sig b) = (a == b) := by
  by_cases h : a = b
  · subst h; simp
  · rw [show (a == b) = false by simpa using h]
    refine beq_eq_false_iff_ne.mpr fun e => h ?_
    have : a.toArray = b.toArray := congrArg PySem.Str.cps e
    simpa using this
mutual
theorem D.eqv_py : ∀ x y : D, PyData.eqv x.py y.py = D.eqv x y
  | .non, y => by cases y <;> rfl
  | .bl _, y => by cases y <;> rfl
  | .int _, y => by cases y <;> rfl
  | .str a, y => by
    cases y <;> first | rfl | skip
    exact sig_inj
  | .tup xs, y => by
    cases y <;> first | rfl | skip
    rename_i ys
    exact D.eqvs_py xs ys
theorem D.eqvs_py : ∀ xs ys : List D, PyData.eqvAll (D.pys xs) (D.pys ys) = D.eqvs xs ys
  | [], ys => by cases ys <;> rfl
  | x :: xs, ys => by
    cases ys with
    | nil => rfl
    | cons y ys => simp only [D.pys, PyData.eqvAll, D.eqvs, D.eqv_py x y, D.eqvs_py xs ys]
end
mutual
theorem D.py_depth : ∀ x : D, x.py.depth = x.depth
  | .non => rfl
  | .bl _ => rfl
  | .int _ => rfl
  | .str _ => rfl
  | .tup xs => by show PyData.depthAll (D.pys xs) + 1 = D.depths xs + 1; rw [D.pys_depth xs]
theorem D.pys_depth : ∀ xs : List D, PyData.depthAll (D.pys xs) = D.depths xs
  | [] => rfl
  | x :: xs => by show max x.py.depth (PyData.depthAll (D.pys xs)) = max x.depth (D.depths xs); rw [D.py_depth x, D.pys_depth xs]
end
mutual
theorem RepD.dp {K : PySem.W.Frag} {H : Hp} : ∀ {x : D} {v : V}, RepD K H x v → Dp K H v x.py ∧ x.py.canLay0 = true
  | _, _, .non => ⟨.non, rfl⟩
  | _, _, .bl b => ⟨.bl b, rfl⟩
  | _, _, .int i => ⟨.int i, rfl⟩
  | _, _, .str s h => ⟨.str (sig s), by show PyData.strOk (sig s) = true; unfold PyData.strOk; simpa using h⟩
  | _, _, .tup h r => ⟨.tup h (RepDs.dp r).1, (RepDs.dp r).2⟩
theorem RepDs.dp {K : PySem.W.Frag} {H : Hp} : ∀ {x : List D} {v : List V}, RepDs K H x v → DpAll K H v (D.pys x) ∧ PyData.canLayAll0 (D.pys x) = true
  | _, _, .nil => ⟨.nil, rfl⟩
  | _, _, .cons h r => ⟨.cons (RepD.dp h).1 (RepDs.dp r).1, by show (PyData.canLay0 _ && PyData.canLayAll0 _) = true; rw [(RepD.dp h).2, (RepDs.dp r).2]; rfl⟩
end
def rEqD2 (K : PySem.W.Frag) : R2 := fun x y H Q => ∃ d e, Dp K H x d ∧ Dp K H y e ∧ d.canLay0 = true ∧ e.canLay0 = true ∧ min d.depth e.depth ≤ 64 ∧ Q (.bl (PyData.eqv d e)) H
def rNeD2 (K : PySem.W.Frag) : R2 := fun x y H Q => ∃ d e, Dp K H x d ∧ Dp K H y e ∧ d.canLay0 = true ∧ e.canLay0 = true ∧ min d.depth e.depth ≤ 64 ∧ Q (.bl (!PyData.eqv d e)) H
theorem op_eqD2 {X : Cx} (hu : X.A.units + 64 < cLine) : OpR X (compareOp .Eq) (rEqD2 X.K) := by
  intro pins s σ H x y v u Q I rx ry h
  obtain ⟨d, e, hd, he, sd, se, m, q⟩ := h
  obtain ⟨as, r1⟩ := Dp.reads I d x v hd rx
  obtain ⟨bs, r2⟩ := Dp.reads I e y u he ry
  exact SeqAt.compareEq_reads r1 r2 sd se (by omega) ⟨.bl _, H, I, rfl, q⟩
theorem op_neD2 {X : Cx} (hu : X.A.units + 64 < cLine) : OpR X (compareOp .NotEq) (rNeD2 X.K) := by
  intro pins s σ H x y v u Q I rx ry h
  obtain ⟨d, e, hd, he, sd, se, m, q⟩ := h
  obtain ⟨as, r1⟩ := Dp.reads I d x v hd rx
  obtain ⟨bs, r2⟩ := Dp.reads I e y u he ry
  exact SeqAt.compareNe_reads r1 r2 sd se (by omega) ⟨.bl _, H, I, rfl, q⟩
/-- what == looks at -/
def pyOf (p : Bool × D) : PyData := match p with
  | (true, .tup xs) => .list (D.pys xs)
  | (_, x) => x.py
theorem datR_of {P : Pr} {K : PySem.W.Frag} {μ : List Addr} {s : S} {σ : L2.St} {H : Hp} {x : R} {v : V} {p : Bool × D} (I : Sim P K μ s σ H) (h : RepR P K μ s σ H x v) (e : datR s x = some p) : Dp K H v (pyOf p) ∧ (pyOf p).canLay0 = true ∧ (pyOf p).depth = p.2.depth ∧ (p.1 = true → ∃ xs, p.2 = .tup xs) := by
  have viaO : ∀ {x : R}, RepR P K μ s σ H x v → (match objR s x with
      | some (.lst ws) => match alld ws with
        | some xs => some (true, D.tup xs)
        | none => none
      | _ => none) = some p → Dp K H v (pyOf p) ∧ (pyOf p).canLay0 = true ∧ (pyOf p).depth = p.2.depth ∧ (p.1 = true → ∃ xs, p.2 = .tup xs) := fun {x} h e => by
    cases q : objR s x with
    | none => rw [q] at e; cases e
    | some o =>
      rw [q] at e
      cases o with
      | dct _ _ => cases e
      | ins _ _ => cases e
      | lst ws =>
        simp only at e
        cases q2 : alld ws with
        | none => rw [q2] at e; cases e
        | some xs =>
          rw [q2] at e
          cases e
          obtain ⟨a, rfl, ⟨vs, e2, rs⟩, _⟩ := I.obj h q
          exact ⟨.lst (.inl (.inl e2)) (RepDs_of rs q2).dp.1, (RepDs_of rs q2).dp.2, by show PyData.depthAll (D.pys xs) + 1 = D.depths xs + 1; rw [D.pys_depth xs], fun _ => ⟨xs, rfl⟩⟩
  cases x with
  | new o => exact viaO h e
  | slot i => exact viaO h e
  | w x =>
    cases x with
    | ref j => exact viaO h e
    | tup ws' => exact viaO h e
    | scr ws' => exact viaO h e
    | d x =>
      cases (show some (false, x) = some p from e)
      cases (show SimW K μ H (.d x) v from h) with
      | d r => exact ⟨r.dp.1, r.dp.2, D.py_depth x, fun z => nomatch z⟩
theorem eqB_py {a b : Bool × D} (ha : a.1 = true → ∃ xs, a.2 = .tup xs) (hb : b.1 = true → ∃ xs, b.2 = .tup xs) : PyData.eqv (pyOf a) (pyOf b) = eqB a b := by
  obtain ⟨k, x⟩ := a
  obtain ⟨l, y⟩ := b
  unfold eqB
  cases k with
  | false =>
    cases l with
    | false =>
      show PyData.eqv x.py y.py = ((false == false) && D.eqv x y)
      rw [D.eqv_py]; simp
    | true =>
      obtain ⟨ys, e⟩ := hb rfl
      simp only at e
      subst e
      show PyData.eqv x.py (.list (D.pys ys)) = false
      cases x <;> rfl
  | true =>
    obtain ⟨xs, e⟩ := ha rfl
    simp only at e
    subst e
    cases l with
    | false =>
      show PyData.eqv (.list (D.pys xs)) y.py = false
      cases y <;> rfl
    | true =>
      obtain ⟨ys, e⟩ := hb rfl
      simp only at e
      subst e
      show PyData.eqvAll (D.pys xs) (D.pys ys) = ((true == true) && D.eqvs xs ys)
      rw [D.eqvs_py]; simp
theorem eq_S {P : Pr} {K : PySem.W.Frag} : OpS P K (rEqD2 K) eqV := fun μ s σ H x y v1 v2 r Q I h1 h2 e h => by
  unfold eqV at e
  split at e <;> first | (cases e; done) | skip
  rename_i a b q1 q2
  split at e <;> cases e
  rename_i hm
  obtain ⟨d1, s1, m1, t1⟩ := datR_of I h1 q1
  obtain ⟨d2, s2, m2, t2⟩ := datR_of I h2 q2
  refine ⟨_, _, d1, d2, s1, s2, by rw [m1, m2]; exact hm, ?_⟩
  rw [eqB_py t1 t2]
  exact h μ H _ (.refl I) rep_bR trivial
theorem ne_S {P : Pr} {K : PySem.W.Frag} : OpS P K (rNeD2 K) neV := fun μ s σ H x y v1 v2 r Q I h1 h2 e h => by
  unfold neV at e
  split at e <;> first | (cases e; done) | skip
  rename_i a b q1 q2
  split at e <;> cases e
  rename_i hm
  obtain ⟨d1, s1, m1, t1⟩ := datR_of I h1 q1
  obtain ⟨d2, s2, m2, t2⟩ := datR_of I h2 q2
  refine ⟨_, _, d1, d2, s1, s2, by rw [m1, m2]; exact hm, ?_⟩
  rw [eqB_py t1 t2]
  exact h μ H _ (.refl I) rep_bR trivial
end Mn

end
section
set_option Elab.async false
set_option linter.all false
set_option maxRecDepth 100000
set_option maxHeartbeats 4000000
/-! MnRule2: tests, in, subscripts, slices, built-in calls. -/
namespace Mn
open PySem PySem.Spec PyProof.Rows L2
section
variable {P : Pr} {K : PySem.W.Frag} {μ : List Addr} {s : S} {σ : L2.St} {H : Hp}
/-! ### truth -/
theorem emp_len {α β : Type} {xs : List α} {ys : List β} (h : xs.length = ys.length) : xs.isEmpty = ys.isEmpty := by
  cases xs <;> cases ys <;> simp at h ⊢
theorem tru_S (I : Sim P K μ s σ H) {r : R} {v : V} {b : Bool} (h : RepR P K μ s σ H r v) (e : tru s r = some b) : TruV K v H b := by
  have viaO : ∀ {r : R}, RepR P K μ s σ H r v → (match objR s r with
      | some (.lst ws) => some (!ws.isEmpty)
      | some (.dct false kvs) => some (!kvs.isEmpty)
      | _ => none) = some b → TruV K v H b := fun {r} h e => by
    cases q : objR s r with
    | none => rw [q] at e; cases e
    | some o =>
      rw [q] at e
      obtain ⟨a, rfl, so, _⟩ := I.obj h q
      cases o with
      | ins _ _ => cases e
      | lst ws =>
        cases e
        obtain ⟨vs, e2, rs⟩ := so
        exact .inl ⟨vs, .inl (.inl e2), by rw [emp_len (SimWs_len rs)]⟩
      | dct z kvs =>
        cases z with
        | true => cases e
        | false =>
          cases e
          obtain ⟨vs, e2, rs⟩ := so
          exact .inr (.inr ⟨vs, e2, by rw [emp_len (Paired.length rs)]⟩)
  have seqT : ∀ {w : W} {ws : List W}, SimW K μ H w v → w.items = some ws → (!ws.isEmpty) = b → TruV K v H b := fun {w ws} h e z => by
    obtain ⟨a, vs, rfl, h1, h2⟩ := SimW_items h e
    exact .inr (.inl ⟨vs, h1, by rw [← z, emp_len (SimWs_len h2)]⟩)
  cases r with
  | new o => exact viaO h e
  | slot i => exact viaO h e
  | w x =>
    cases x with
    | ref j => exact viaO h e
    | scr j => exact viaO h e
    | tup a => exact seqT (w := .tup a) h rfl (Option.some.inj e)
    | d x =>
      cases x with
      | non =>
        cases (show SimW K μ H _ v from h) with
        | d q => cases q; cases e; rfl
      | bl k => rw [rep_bl h]; cases e; rfl
      | int i => rw [rep_int h]; cases e; rfl
      | str a =>
        obtain ⟨e1, _⟩ := rep_str h
        rw [e1]
        have e : (if a.length ≤ LN then some (!a.isEmpty) else none) = some b := e
        by_cases hl : a.length ≤ LN
        · rw [if_pos hl] at e
          cases e
          refine ⟨by rw [sig_len, ← LN_eq]; exact hl, ?_⟩
          rw [sig_len]
          cases a with
          | nil => rfl
          | cons x r =>
            show true = !(((r.length + 1 : Nat) : Int) == 0)
            have : (((r.length + 1 : Nat) : Int) == 0) = false := beq_eq_false_iff_ne.mpr (by omega)
            rw [this]; rfl
        · rw [if_neg hl] at e; cases e
      | tup a => exact seqT (w := .d (.tup a)) h rfl (by rw [← Option.some.inj e]; simp)
end
section
variable {X : Cx} {P : Pr} {Wx : WX} {pos : Pos} {a b c e : PySem.Expr} {ca cb cc : Ex} {es rest : List PySem.Expr} {f g : S → R → R → Option R} {rr rr' : R2} {ta tb : Tm}
theorem s_one {op} (h : PE X a (tE P X.K Wx ca)) : PE X (.BoolOp op [a] pos) (tE P X.K Wx ca) := pe_one h
theorem s_and (ha : PE X a (tE P X.K Wx ca)) (hb : PE X (.BoolOp .And (b :: rest) pos) (tE P X.K Wx cb)) : PE X (.BoolOp .And (a :: b :: rest) pos) (tE P X.K Wx (andE ca cb)) := PE_imp (pe_andT ha hb) fun σ H Q h => by
  obtain ⟨μ, s, I, h⟩ := h
  refine ⟨μ, s, I, (Pst.bind h).mono fun r s1 μ1 H1 A h v rv fv => ?_⟩
  cases q : tru s1 r with
  | none => rw [q] at h; exact h.elim
  | some k =>
    rw [q] at h
    refine ⟨k, tru_S A.sim rv q, ?_⟩
    cases k with
    | true => exact ⟨μ1, s1, A.sim, (h.from A).mono fun r2 s2 μ2 H2 B h2 v2 r2 f2 => h2 v2 r2 (f2.back A.step.live)⟩
    | false => exact h μ1 H1 A v rv fv
theorem s_or (ha : PE X a (tE P X.K Wx ca)) (hb : PE X (.BoolOp .Or (b :: rest) pos) (tE P X.K Wx cb)) : PE X (.BoolOp .Or (a :: b :: rest) pos) (tE P X.K Wx (orE ca cb)) := PE_imp (pe_orT ha hb) fun σ H Q h => by
  obtain ⟨μ, s, I, h⟩ := h
  refine ⟨μ, s, I, (Pst.bind h).mono fun r s1 μ1 H1 A h v rv fv => ?_⟩
  cases q : tru s1 r with
  | none => rw [q] at h; exact h.elim
  | some k =>
    rw [q] at h
    refine ⟨k, tru_S A.sim rv q, ?_⟩
    cases k with
    | true => exact h μ1 H1 A v rv fv
    | false => exact ⟨μ1, s1, A.sim, (h.from A).mono fun r2 s2 μ2 H2 B h2 v2 r2 f2 => h2 v2 r2 (f2.back A.step.live)⟩
theorem s_not (ha : PE X a (tE P X.K Wx ca)) : PE X (.UnaryOp .Not a pos) (tE P X.K Wx (op1 notV ca)) := PE_imp (pe_notT ha) fun σ H Q h => by
  obtain ⟨μ, s, I, h⟩ := h
  refine ⟨μ, s, I, (Pst.bind h).mono fun r s1 μ1 H1 A h v rv fv => ?_⟩
  unfold notV at h
  cases q : tru s1 r with
  | none => rw [q] at h; exact h.elim
  | some k =>
    rw [q] at h
    exact ⟨k, tru_S A.sim rv q, h μ1 H1 A _ rep_bR trivial⟩
theorem s_neg (ha : PE X a (tE P X.K Wx ca)) : PE X (.UnaryOp .USub a pos) (tE P X.K Wx (op1 negV ca)) := PE_imp (pe_un un_neg ha) fun σ H Q h => by
  obtain ⟨μ, s, I, h⟩ := h
  refine ⟨μ, s, I, (Pst.bind h).mono fun r s1 μ1 H1 A h v rv fv => ?_⟩
  cases q : negV s1 r with
  | none => rw [q] at h; exact h.elim
  | some k =>
    rw [q] at h
    unfold negV at q
    split at q <;> cases q
    rw [rep_int rv]
    exact ⟨_, rfl, h μ1 H1 A _ rep_iR trivial⟩
/-! ### tests -/
theorem t_tr (ha : PE X a (tE P X.K Wx ca)) (he : ∀ whole, isTrue a X.env whole = (do let v ← whole; standAt a.pos; holding [v] (truthy v)) := by intro _; rfl) : PT X a (tT P X.K Wx (tst ca)) := PT_imp (pt_truth ha he) fun σ H Q h => by
  obtain ⟨μ, s, I, h⟩ := h
  refine ⟨μ, s, I, (Pst.bind h).mono fun r s1 μ1 H1 A h v rv fv => ?_⟩
  cases q : tru s1 r with
  | none => rw [q] at h; exact h.elim
  | some k => rw [q] at h; exact ⟨k, tru_S A.sim rv q, h μ1 H1 A⟩
/-- results that are True or False -/
def Bo (f : S → R → R → Option R) : Prop := ∀ s x y r, f s x y = some r → ∃ k, r = bR k
theorem tst_bool {K : PySem.W.Frag} {c : Ex} {σ : L2.St} {H : Hp} {Q : Bool → Hp → Prop} (hb : ∀ s r s', c s = .ok r s' → ∃ k, r = bR k) (h : tT P K Wx (tst c) σ H Q) : tE P K Wx c σ H fun x H' => ∃ k, x = .bl k ∧ Q k H' := by
  obtain ⟨μ, s, I, h⟩ := h
  refine ⟨μ, s, I, ?_⟩
  have h2 := Pst.bind h
  cases q : c s with
  | ok r s1 =>
    rw [q] at h2
    intro μ1 H1 A v rv fv
    obtain ⟨k, rfl⟩ := hb s r s1 q
    exact ⟨k, rep_bl rv, h2 μ1 H1 A μ1 H1 A⟩
  | exc c xs s1 => rw [q] at h2; exact h2
  | bad => rw [q] at h2; exact h2
theorem op2_bool (hb : Bo f) : ∀ s r s', op2 f ca cb s = .ok r s' → ∃ k, r = bR k := fun s r s' h => by
  unfold op2 at h
  cases q : ca s with
  | ok x s1 =>
    rw [q] at h
    simp only [Res.bind_ok] at h
    cases q2 : cb s1 with
    | ok y s2 =>
      rw [q2] at h
      simp only [Res.bind_ok] at h
      cases q3 : f s2 x y with
      | none => rw [q3] at h; cases h
      | some r' => rw [q3] at h; cases h; exact hb _ _ _ _ q3
    | exc _ _ _ => rw [q2] at h; cases h
    | bad => rw [q2] at h; cases h
  | exc _ _ _ => rw [q] at h; cases h
  | bad => rw [q] at h; cases h
theorem t_cmp {op : CmpOp} (ho : OpR X (compareOp op) rr) (hf : OpS P X.K rr f) (hb : Bo f) (ha : PE X a (tE P X.K Wx ca)) (hc : PE X b (tE P X.K Wx cb)) (hm : behindInMarks op b = false) : PT X (.Compare a [op] [b] pos) (tT P X.K Wx (tst (op2 f ca cb))) :=
  PT_imp (pt_cmpR ho ha hc hm) fun _ _ _ h => tOp_of hf (tst_bool (op2_bool hb) h)
theorem bo_cmpI {p : Int → Int → Bool} : Bo (cmpI p) := fun s x y r e => by
  unfold cmpI at e; split at e <;> cases e; exact ⟨_, rfl⟩
theorem bo_is : Bo isV := fun s x y r e => by
  unfold isV at e; split at e <;> cases e; exact ⟨_, rfl⟩
theorem bo_isnt : Bo isntV := fun s x y r e => by
  unfold isntV at e; split at e <;> cases e; exact ⟨_, rfl⟩
theorem bo_eq : Bo eqV := fun s x y r e => by
  unfold eqV at e; split at e <;> first | (cases e; done) | skip
  split at e <;> cases e; exact ⟨_, rfl⟩
theorem bo_ne : Bo neV := fun s x y r e => by
  unfold neV at e; split at e <;> first | (cases e; done) | skip
  split at e <;> cases e; exact ⟨_, rfl⟩
theorem bo_in {n : Bool} : Bo (inV n) := fun s x y r e => by
  unfold inV at e
  split at e <;> first | (cases e; done) | skip
  obtain ⟨b, _, rfl⟩ := Option.map_eq_some_iff.mp e
  exact ⟨_, rfl⟩
theorem w_and1 (h : PT X a (tT P X.K Wx ta)) : PW X (.BoolOp .And [a] pos) (tT P X.K Wx ta) := pw_and1 h
theorem w_or1 (h : PT X a (tT P X.K Wx ta)) : PW X (.BoolOp .Or [a] pos) (tT P X.K Wx ta) := pw_or1 h
theorem w_and (h : PT X a (tT P X.K Wx ta)) (h2 : PW X (.BoolOp .And (b :: rest) pos) (tT P X.K Wx tb)) : PW X (.BoolOp .And (a :: b :: rest) pos) (tT P X.K Wx (andT ta tb)) := PW_imp (pw_and h h2) fun σ H Q h => by
  obtain ⟨μ, s, I, h⟩ := h
  refine ⟨μ, s, I, (Pst.bind h).mono fun r s1 μ1 H1 A h => ?_⟩
  cases r with
  | true => exact ⟨μ1, s1, A.sim, h.from A⟩
  | false => exact h μ1 H1 A
theorem w_or (h : PT X a (tT P X.K Wx ta)) (h2 : PW X (.BoolOp .Or (b :: rest) pos) (tT P X.K Wx tb)) : PW X (.BoolOp .Or (a :: b :: rest) pos) (tT P X.K Wx (orT ta tb)) := PW_imp (pw_or h h2) fun σ H Q h => by
  obtain ⟨μ, s, I, h⟩ := h
  refine ⟨μ, s, I, (Pst.bind h).mono fun r s1 μ1 H1 A h => ?_⟩
  cases r with
  | true => exact h μ1 H1 A
  | false => exact ⟨μ1, s1, A.sim, h.from A⟩
theorem t_not (h : PT X a (tT P X.K Wx ta)) : PT X (.UnaryOp .Not a pos) (tT P X.K Wx (notT ta)) := PT_imp (pt_not h) fun σ H Q h => by
  obtain ⟨μ, s, I, h⟩ := h
  exact ⟨μ, s, I, (Pst.bind h).mono fun r s1 μ1 H1 A h => h μ1 H1 A⟩
theorem s_ite (ht : PT X c (tT P X.K Wx ta)) (ha : PE X a (tE P X.K Wx ca)) (hb : PE X b (tE P X.K Wx cb)) : PE X (.IfExp c a b pos) (tE P X.K Wx (iteE ta ca cb)) := PE_imp (pe_ifExp ht ha hb) fun σ H Q h => by
  obtain ⟨μ, s, I, h⟩ := h
  refine ⟨μ, s, I, (Pst.bind h).mono fun r s1 μ1 H1 A h => ?_⟩
  cases r with
  | true => exact ⟨μ1, s1, A.sim, (h.from A).mono fun r2 s2 μ2 H2 B h2 v2 r2 f2 => h2 v2 r2 (f2.back A.step.live)⟩
  | false => exact ⟨μ1, s1, A.sim, (h.from A).mono fun r2 s2 μ2 H2 B h2 v2 r2 f2 => h2 v2 r2 (f2.back A.step.live)⟩
/-- a < b < c -/
theorem tCh_of {K : PySem.W.Frag} (hf : OpS P K rr f) (hg : OpS P K rr' g) (hb : Bo f) {σ : L2.St} {H : Hp} {Q : VK} (h : tE P K Wx (chE f g ca cb cc) σ H Q) : tChain rr rr' (tE P K Wx ca) (tE P K Wx cb) (tE P K Wx cc) σ H Q := by
  obtain ⟨μ, s, I, h⟩ := h
  refine ⟨μ, s, I, (Pst.bind h).mono fun x s1 μ1 H1 A h v1 r1 f1 => ?_⟩
  refine ⟨μ1, s1, A.sim, ((Pst.bind h).from A).mono fun y s2 μ2 H2 B h v2 r2 f2 => ?_⟩
  have AB := A.trans B
  have r1' := r1.aft A.sim B
  cases q : f s2 x y with
  | none => rw [q] at h; exact h.elim
  | some r =>
    obtain ⟨k, rfl⟩ := hb _ _ _ _ q
    rw [q] at h
    refine hf μ2 s2 σ H2 x y v1 v2 _ _ B.sim r1' r2 q fun μ3 H3 v C r3 f3 => ⟨k, rep_bl r3, ?_⟩
    have ABC := AB.trans C
    cases k with
    | false => exact h μ3 H3 ABC _ rep_bR trivial
    | true =>
      refine ⟨μ3, s2, C.sim, ((Pst.bind h).from ABC).mono fun z s4 μ4 H4 E h v4 r4 f4 => ?_⟩
      have r2' := (r2.aft B.sim C).aft C.sim E
      cases q2 : g s4 y z with
      | none => rw [q2] at h; exact h.elim
      | some r' =>
        rw [q2] at h
        exact hg μ4 s4 σ H4 y z v2 v4 r' Q E.sim r2' r4 q2 fun μ' H' v F r5 f5 => h μ' H' ((ABC.trans E).trans F) v r5 (f5.back (ABC.trans E).step.live)
theorem s_chain {op op' : CmpOp} (ho : OpR X (compareOp op) rr) (ho' : OpR X (compareOp op') rr') (hf : OpS P X.K rr f) (hg : OpS P X.K rr' g) (hb : Bo f) (ha : PE X a (tE P X.K Wx ca)) (hb' : PE X b (tE P X.K Wx cb)) (hc : PE X c (tE P X.K Wx cc))
    (hm : lastMarks [op, op'] [b, c] = false := by with_unfolding_all rfl) : PE X (.Compare a [op, op'] [b, c] pos) (tE P X.K Wx (chE f g ca cb cc)) := PE_imp (pe_chain ho ho' ha hb' hc hm) fun _ _ _ h => tCh_of hf hg hb h
end
section
variable {P : Pr} {K : PySem.W.Frag} {μ : List Addr} {s : S} {σ : L2.St} {H : Hp}
/-! ### in -/
theorem flat_of {x : D} {v : V} (h : RepD K H x v) (f : x.flat = true) : flatV v = true := by
  cases h <;> first | rfl | cases f
theorem eqV_of {x y : D} {u v : V} (hx : RepD K H x u) (hy : RepD K H y v) (fx : x.flat = true) (fy : y.flat = true) : L2.eqV u v = D.eqv x y := by
  cases hx <;> cases hy <;> first | rfl | (cases fx; done) | (cases fy; done) | exact sig_inj
theorem flats_of : ∀ {xs : List D} {vs : List V}, RepDs K H xs vs → xs.all D.flat = true → vs.all flatV = true
  | _, _, .nil, _ => rfl
  | _, _, .cons h t, f => by
    simp only [List.all_cons, Bool.and_eq_true] at f ⊢
    exact ⟨flat_of h f.1, flats_of t f.2⟩
theorem inV_of {x : D} {u : V} (hx : RepD K H x u) (fx : x.flat = true) : ∀ {xs : List D} {vs : List V}, RepDs K H xs vs → xs.all D.flat = true → L2.inV u vs = inB x xs
  | _, _, .nil, _ => rfl
  | _, _, .cons h t, f => by
    simp only [List.all_cons, Bool.and_eq_true] at f
    show (L2.eqV _ u || L2.inV u _) = (D.eqv _ x || inB x _)
    rw [eqV_of h hx f.1 fx, inV_of hx fx t f.2]
theorem inSeq_of {x : D} {u : V} {ws : List W} {vs : List V} {b : Bool} (hx : RepD K H x u) (rs : SimWs K μ H ws vs) (e : inSeq x ws = some b) : flatV u = true ∧ vs.all flatV = true ∧ L2.inV u vs = b := by
  unfold inSeq at e
  cases q : alld ws with
  | none => rw [q] at e; cases e
  | some ys =>
    rw [q] at e
    simp only at e
    split at e <;> cases e
    rename_i hf
    simp only [Bool.and_eq_true] at hf
    have r := RepDs_of rs q
    exact ⟨flat_of hx hf.1, flats_of r hf.2, inV_of hx hf.1 r hf.2⟩
theorem keyD_kV {x : D} {v : V} {k : Key} (h : RepD K H x v) (e : keyD x = some k) : v = kV k := by
  cases h <;> first | (cases e; done) | skip
  · cases e; rfl
  · cases e; rfl
theorem keyD_some {x : D} (h : x.isKey = true) : ∃ k, keyD x = some k := by
  cases x <;> first | (cases h; done) | exact ⟨_, rfl⟩
theorem keyD_inj {x y : D} {k l : Key} (hx : keyD x = some k) (hy : keyD y = some l) : k = l ↔ x = y := by
  cases x <;> first | (cases hx; done) | skip
  all_goals
    cases hx
    cases y <;> first | (cases hy; done) | skip
    all_goals
      cases hy
      constructor
      · intro e
        first
          | (have e1 := Sum.inl.inj e; rw [e1])
          | (have e1 := Sum.inr.inj e
             have : (_ : List Nat).toArray = (_ : List Nat).toArray := congrArg PySem.Str.cps e1
             simpa using this)
          | cases e
      · intro e
        first
          | (cases e; rfl)
          | cases e
theorem valV_of {k : D} {kk : Key} (hk : keyD k = some kk) : ∀ {kvs : List (D × W)} {ps : List (Key × V)}, SimK K μ H kvs ps → (∀ w, look kvs k = some w → ∃ v, valV ps kk = some v ∧ SimW K μ H w v) ∧ (look kvs k = none → valV ps kk = none)
  | _, _, .nil => ⟨fun _ h => (nomatch h), fun _ => rfl⟩
  | (x, w0) :: r, (l, v0) :: ps, .cons h t => by
    obtain ⟨h1, h2⟩ := h
    have ih := valV_of hk t
    by_cases e : x = k
    · have e1 : l = kk := (keyD_inj h1 hk).mpr e
      refine ⟨fun w hw => ⟨v0, valV_pos e1, ?_⟩, fun hw => ?_⟩
      · have hw : (if x = k then some w0 else look r k) = some w := hw
        rw [if_pos e] at hw
        cases hw
        exact h2.1
      · have hw : (if x = k then some w0 else look r k) = none := hw
        rw [if_pos e] at hw
        cases hw
    · have e1 : ¬ l = kk := fun z => e ((keyD_inj h1 hk).mp z)
      have e2 : look ((x, w0) :: r) k = look r k := by show (if x = k then some w0 else look r k) = _; rw [if_neg e]
      have e3 : valV ((l, v0) :: ps) kk = valV ps kk := valV_neg e1
      rw [e2, e3]
      exact ih
theorem anyK_of {k : D} {kk : Key} (hk : keyD k = some kk) {kvs : List (D × W)} {ps : List (Key × V)} (h : SimK K μ H kvs ps) : (valV ps kk).isSome = kvs.any fun q => decide (q.1 = k) := by
  rw [← valV_any]
  induction h with
  | nil => rfl
  | @cons p q l1 l2 h t ih =>
    simp only [List.any_cons, ih]
    congr 1
    by_cases e : p.1 = k
    · rw [decide_eq_true e, decide_eq_true ((keyD_inj h.1 hk).mpr e)]
    · rw [decide_eq_false e, decide_eq_false fun z => e ((keyD_inj h.1 hk).mp z)]
def rIn2 (K : PySem.W.Frag) (neg : Bool) : R2 := fun x y H Q => rIn K neg x y H Q ∨ ∃ (c : Nat) (z : PySem.Str), x = .str ⟨#[c]⟩ ∧ y = .str z ∧ Q (.bl (if neg then !decide (c ∈ z.cps.toList) else decide (c ∈ z.cps.toList))) H
theorem op_in2 {X : Cx} : OpR X (compareOp .In) (rIn2 X.K false) := op_in_seq.or op_in_sign
theorem op_notin2 {X : Cx} : OpR X (compareOp .NotIn) (rIn2 X.K true) := op_notIn_seq.or op_notIn_sign
end
section
variable {X : Cx} {P : Pr} {Wx : WX} {pos : Pos} {a b c e : PySem.Expr} {ca cb cc : Ex}
/-- an operator whose rule holds where no dict stands at the right -/
theorem tOp_at {K : PySem.W.Frag} {rr : R2} {f : S → R → R → Option R} {σ : L2.St} {H : Hp} {Q : VK} {μ : List Addr} {s : S} (I : Sim P K μ s σ H) (h : Pst P K Wx μ s σ H (op2 f ca cb s) fun r s' μ' H' => ∀ v, RepR P K μ' s' σ H' r v → Frs H r v → Q v H')
    (hf : ∀ x s1 y s2, ca s = .ok x s1 → cb s1 = .ok y s2 → ∀ (μ : List Addr) (σ : L2.St) (H : Hp) (v1 v2 : V) (r : R) (Q : VK), Sim P K μ s2 σ H → RepR P K μ s2 σ H x v1 → RepR P K μ s2 σ H y v2 → f s2 x y = some r →
      (∀ μ' H' v, Aft P K μ s2 σ H μ' s2 H' → RepR P K μ' s2 σ H' r v → Frs H r v → Q v H') → rr v1 v2 H Q) : tOp rr (tE P K Wx ca) (tE P K Wx cb) σ H Q := by
  refine ⟨μ, s, I, ?_⟩
  have h1 := Pst.bind h
  cases q1 : ca s with
  | bad => rw [q1] at h1; exact h1
  | exc c xs s1 => rw [q1] at h1; exact h1
  | ok x s1 =>
    rw [q1] at h1
    intro μ1 H1 A v1 r1 f1
    have h : Pst P K Wx μ s σ H ((cb s1).bind fun y s2 => match f s2 x y with
        | some r => Res.ok r s2
        | none => .bad) _ := h1 μ1 H1 A
    refine ⟨μ1, s1, A.sim, ?_⟩
    have h2 := (Pst.bind h).from A
    cases q2 : cb s1 with
    | bad => rw [q2] at h2; exact h2
    | exc c xs s2 => rw [q2] at h2; exact h2
    | ok y s2 =>
      rw [q2] at h2
      intro μ2 H2 B v2 r2 f2
      have h : Pst P K Wx μ s σ H (match f s2 x y with
        | some r => Res.ok r s2
        | none => .bad) _ := h2 μ2 H2 B
      cases q : f s2 x y with
      | none => rw [q] at h; exact h.elim
      | some r =>
        rw [q] at h
        exact hf x s1 y s2 q1 q2 μ2 σ H2 v1 v2 r Q B.sim (r1.aft A.sim B) r2 q fun μ' H' v C r3 f3 => h μ' H' ((A.trans B).trans C) v r3 (f3.back (A.trans B).step.live)
def dictRight (ca cb : Ex) (s : S) : Prop := ∃ x s1 y s2 z kvs, ca s = .ok x s1 ∧ cb s1 = .ok y s2 ∧ objR s2 y = some (.dct z kvs)
/-- the address of a dict, as it may be read -/
theorem Sim.dict {K : PySem.W.Frag} {μ : List Addr} {s : S} {σ : L2.St} {H : Hp} (I : Sim P K μ s σ H) {r : R} {v : V} {z : Bool} {kvs : List (D × W)} (h : RepR P K μ s σ H r v) (e : objR s r = some (.dct z kvs)) :
    ∃ d ps, v = .ref d ∧ Rd H d (.dK ps) ∧ SimK K μ H kvs ps := by
  obtain ⟨d, rfl, so, _⟩ := I.obj h e
  cases z with
  | false => obtain ⟨ps, e2, rs⟩ := so; exact ⟨d, ps, rfl, .inl e2, rs⟩
  | true => obtain ⟨ps, o, e2, rs⟩ := so; exact ⟨d, ps, rfl, .inr ⟨o, e2⟩, rs⟩
theorem tIn_of {K : PySem.W.Frag} {neg : Bool} {σ : L2.St} {H : Hp} {Q : VK} (h : tE P K Wx (op2 (inV neg) ca cb) σ H Q) :
    tOp (rIn2 K neg) (tE P K Wx ca) (tE P K Wx cb) σ H Q ∨ (tE P K Wx ca) σ H fun y H1 => (tE P K Wx cb) σ H1 fun x H2 => ∃ a o, x = .ref a ∧ DGet H2 a y o ∧ Q (.bl (if neg then !o.isSome else o.isSome)) H2 := by
  obtain ⟨μ, s, I, h⟩ := h
  by_cases hd : dictRight ca cb s
  · obtain ⟨x, s1, y, s2, z, kvs, e1, e2, e3⟩ := hd
    right
    refine ⟨μ, s, I, ?_⟩
    have h1 := Pst.bind h
    rw [e1] at h1 ⊢
    intro μ1 H1 A v1 r1 f1
    refine ⟨μ1, s1, A.sim, ?_⟩
    have h : Pst P K Wx μ s σ H ((cb s1).bind fun y s2 => match inV neg s2 x y with
        | some r => Res.ok r s2
        | none => .bad) _ := h1 μ1 H1 A
    have h2 := (Pst.bind h).from A
    rw [e2] at h2 ⊢
    intro μ2 H2 B v2 r2 f2
    have h : Pst P K Wx μ s σ H (match inV neg s2 x y with
        | some r => Res.ok r s2
        | none => .bad) _ := h2 μ2 H2 B
    obtain ⟨d, ps, rfl, rd, rs⟩ := B.sim.dict r2 e3
    have fin : ∀ {x0 : D}, x = .w (.d x0) → inV neg s2 x y = (if x0.isKey then some (kvs.any fun q => decide (q.1 = x0)) else none).map fun b => bR (if neg then !b else b) := fun {x0} e => by
      subst e
      unfold inV inD
      simp only [e3]
    cases x with
    | new o => exact h.elim
    | slot i => exact h.elim
    | w x =>
      cases x with
      | ref _ => exact h.elim
      | tup _ => exact h.elim
      | scr _ => exact h.elim
      | d x0 =>
        rw [fin rfl] at h
        by_cases hk : x0.isKey = true
        · rw [if_pos hk] at h
          obtain ⟨k, ek⟩ := keyD_some hk
          have r1' := r1.aft A.sim B
          have ev : v1 = kV k := by
            cases (show SimW K μ2 H2 (.d x0) v1 from r1') with
            | d q => exact keyD_kV q ek
          refine ⟨d, valV ps k, rfl, .inl ⟨ps, k, rd, ev, rfl⟩, ?_⟩
          rw [anyK_of ek rs]
          exact h μ2 H2 (A.trans B) _ rep_bR trivial
        · rw [if_neg hk] at h; exact h.elim
  · left
    refine tOp_at I h fun x s1 y s2 e1 e2 μ σ H v1 v2 r Q I h1 h2 e hq => ?_
    have nd : ∀ z kvs, objR s2 y ≠ some (.dct z kvs) := fun z kvs q => hd ⟨x, s1, y, s2, z, kvs, e1, e2, q⟩
    cases x with
    | new o => cases e
    | slot i => cases e
    | w x =>
      cases x with
      | ref _ => cases e
      | tup _ => cases e
      | scr _ => cases e
      | d x0 =>
        cases (show SimW K μ H (.d x0) v1 from h1) with
        | d rx =>
        obtain ⟨b, eb, rfl⟩ := Option.map_eq_some_iff.mp (show (inD s2 x0 y).map (fun b => bR (if neg then !b else b)) = some r from e)
        have eb : inRest s2 x0 y = some b := by
          unfold inD at eb
          cases q : objR s2 y with
          | none => rw [q] at eb; exact eb
          | some o =>
            cases o with
            | dct z kvs => exact absurd q (nd z kvs)
            | lst ws => rw [q] at eb; exact eb
            | ins c fs => rw [q] at eb; exact eb
        unfold inRest at eb
        cases q : seqR s2 y with
        | some p =>
          obtain ⟨k, ws⟩ := p
          rw [q] at eb
          obtain ⟨p, vs, rfl, rs, hp⟩ := I.seq h2 q
          obtain ⟨f1, f2, f3⟩ := inSeq_of rx rs eb
          refine .inl ⟨p, vs, rfl, ?_, f1, f2, ?_⟩
          · cases k with
            | true => exact .inl (.inl (.inl hp))
            | false => exact .inr hp
          · rw [f3]
            exact hq μ H _ (.refl I) rep_bR trivial
        | none =>
          rw [q] at eb
          have eb : signIn x0 y = some b := eb
          unfold signIn at eb
          split at eb <;> first | (cases eb; done) | skip
          cases eb
          obtain ⟨e2, _⟩ := rep_str h2
          cases rx
          refine .inr ⟨_, _, rfl, e2, ?_⟩
          exact hq μ H _ (.refl I) rep_bR trivial
theorem s_in (hu : X.A.units + 1 < cLine) (ha : PE X a (tE P X.K Wx ca)) (hb : PE X b (tE P X.K Wx cb)) (hm : behindInMarks .In b = false) : PE X (.Compare a [.In] [b] pos) (tE P X.K Wx (op2 (inV false) ca cb)) :=
  PE_imp (PE_or (pe_cmpR op_in2 ha hb hm) (pe_cmp (pc_din hu ha hb) hm)) fun _ _ _ h => tIn_of h
theorem s_notin (hu : X.A.units + 1 < cLine) (ha : PE X a (tE P X.K Wx ca)) (hb : PE X b (tE P X.K Wx cb)) (hm : behindInMarks .NotIn b = false) : PE X (.Compare a [.NotIn] [b] pos) (tE P X.K Wx (op2 (inV true) ca cb)) :=
  PE_imp (PE_or (pe_cmpR op_notin2 ha hb hm) (pe_cmp (pc_dnotin hu ha hb) hm)) fun _ _ _ h => tIn_of h
theorem PT_or {X : Cx} {e : PySem.Expr} {t t' : TT} (h : PT X e t) (h' : PT X e t') : PT X e fun σ H Q => t σ H Q ∨ t' σ H Q := ⟨fun pins s σ H Q I q => q.elim (h.run pins s σ H Q I) (h'.run pins s σ H Q I)⟩
theorem t_in (hu : X.A.units + 1 < cLine) (ha : PE X a (tE P X.K Wx ca)) (hb : PE X b (tE P X.K Wx cb)) (hm : behindInMarks .In b = false) : PT X (.Compare a [.In] [b] pos) (tT P X.K Wx (tst (op2 (inV false) ca cb))) :=
  PT_imp (PT_or (pt_cmpR op_in2 ha hb hm) (pt_cmp (pc_din hu ha hb) hm)) fun _ _ _ h => tIn_of (tst_bool (op2_bool bo_in) h)
theorem t_notin (hu : X.A.units + 1 < cLine) (ha : PE X a (tE P X.K Wx ca)) (hb : PE X b (tE P X.K Wx cb)) (hm : behindInMarks .NotIn b = false) : PT X (.Compare a [.NotIn] [b] pos) (tT P X.K Wx (tst (op2 (inV true) ca cb))) :=
  PT_imp (PT_or (pt_cmpR op_notin2 ha hb hm) (pt_cmp (pc_dnotin hu ha hb) hm)) fun _ _ _ h => tIn_of (tst_bool (op2_bool bo_in) h)
end
end Mn

end
section
set_option Elab.async false
set_option linter.all false
set_option maxRecDepth 100000
set_option maxHeartbeats 4000000
/-! MnRule3: subscripts, slices, built-in calls, isinstance, methods of lists. -/
namespace Mn
open PySem PySem.Spec PyProof.Rows L2
section
variable {P : Pr} {K : PySem.W.Frag} {μ : List Addr} {s : S} {σ : L2.St} {H : Hp}
theorem ixN_eq (n : Nat) (i : Int) : Mn.ixN n i = L2.ixN n i := rfl
theorem atI_eq {α : Type} (xs : List α) (i : Int) : Mn.atI xs i = L2.atI xs i := by
  unfold Mn.atI L2.atI
  rw [ixN_eq]
  cases L2.ixN xs.length i <;> rfl
theorem SimWs_get : ∀ {ws : List W} {vs : List V} {j : Nat} {w : W}, SimWs K μ H ws vs → ws[j]? = some w → ∃ v, vs[j]? = some v ∧ SimW K μ H w v
  | _, _, _, _, .nil, e => by simp at e
  | _, _, 0, _, .cons h _, e => by simp at e; subst e; exact ⟨_, rfl, h⟩
  | _, _, j + 1, _, .cons _ t, e => by
    obtain ⟨v, e1, h⟩ := SimWs_get (j := j) t (by simpa using e)
    exact ⟨v, by simpa using e1, h⟩
theorem SimWs_at {ws : List W} {vs : List V} {i : Int} {w : W} (h : SimWs K μ H ws vs) (e : Mn.atI ws i = some w) : ∃ v, L2.atI vs i = some v ∧ SimW K μ H w v := by
  rw [atI_eq] at e
  unfold L2.atI at e ⊢
  rw [← SimWs_len h]
  cases q : L2.ixN ws.length i with
  | none => rw [q] at e; cases e
  | some j => rw [q] at e; exact SimWs_get h e
theorem atI_map {α β : Type} (f : α → β) (xs : List α) (i : Int) : Mn.atI (xs.map f) i = (Mn.atI xs i).map f := by
  unfold Mn.atI
  rw [List.length_map]
  cases Mn.ixN xs.length i with
  | none => rfl
  | some j => simp
theorem ixSeq_S (I : Sim P K μ s σ H) {x : R} {i : Int} {v1 : V} {r : R} {Q : VK} (h1 : RepR P K μ s σ H x v1) (e : ixSeq s x i = some r)
    (h : ∀ μ' H' v, Aft P K μ s σ H μ' s H' → RepR P K μ' s σ H' r v → Frs H r v → Q v H') : rIx K v1 (.int i) H Q := by
  have general : ∀ {x : R} {ws : List W} {k : Bool} {w : W}, RepR P K μ s σ H x v1 → seqR s x = some (k, ws) → Mn.atI ws i = some w → r = .w w → rIx K v1 (.int i) H Q := fun {x ws k w} h1 q e1 er => by
    subst er
    obtain ⟨a, vs, rfl, rs, ha⟩ := I.seq h1 q
    obtain ⟨v, e2, rv⟩ := SimWs_at rs e1
    have fin := h μ H v (.refl I) rv trivial
    cases k with
    | true => exact .inl ⟨a, vs, i, v, rfl, rfl, .inl (.inl ha), e2, fin⟩
    | false => exact .inr (.inl ⟨a, vs, i, v, rfl, rfl, ha, e2, fin⟩)
  unfold ixSeq at e
  split at e
  · rename_i xs
    obtain ⟨d, e1, e2⟩ := Option.map_eq_some_iff.mp e
    exact general (x := .w (.d (.tup xs))) (ws := xs.map W.d) h1 rfl (by rw [atI_map, e1]; rfl) e2.symm
  · rename_i a
    split at e <;> first | (cases e; done) | skip
    rename_i hl
    obtain ⟨c, e1, e2⟩ := Option.map_eq_some_iff.mp e
    subst e2
    obtain ⟨e3, ok⟩ := rep_str h1
    subst e3
    refine .inr (.inr ⟨sig a, i, c, rfl, rfl, by rw [sig_len, ← LN_eq]; exact hl, ?_, ?_⟩)
    · rw [← atI_eq]; exact e1
    · refine h μ H _ (.refl I) (SimW.d (.str [c] fun d hd => ?_)) trivial
      simp only [List.mem_singleton] at hd
      subst hd
      unfold Mn.atI at e1
      split at e1 <;> first | (cases e1; done) | skip
      exact ok _ (List.mem_of_getElem? e1)
  · rename_i ns
    obtain ⟨n, e1, e2⟩ := Option.map_eq_some_iff.mp e
    subst e2
    cases (show SimW K μ H (.scr ns) v1 from h1) with
    | @scr a _ fz =>
      refine .inl ⟨a, _, i, .int n, rfl, rfl, fz.sq, ?_, h μ H _ (.refl I) rep_iR trivial⟩
      rw [← atI_eq, atI_map, e1]
      rfl
  · cases q : seqR s x with
    | none => rw [q] at e; cases e
    | some p =>
      rw [q] at e
      obtain ⟨w, e1, e2⟩ := Option.map_eq_some_iff.mp e
      exact general h1 (k := p.1) (ws := p.2) q e1 e2.symm
/-! ### slices -/
theorem sIx_eq (n d : Nat) (o : Option Int) : Mn.sIx n d o = HT.sIx n d o := rfl
theorem SimWs.drop : ∀ {ws : List W} {vs : List V} (n : Nat), SimWs K μ H ws vs → SimWs K μ H (ws.drop n) (vs.drop n)
  | _, _, 0, h => h
  | _, _, _ + 1, .nil => .nil
  | _, _, n + 1, .cons _ t => SimWs.drop n t
theorem SimWs.take : ∀ {ws : List W} {vs : List V} (n : Nat), SimWs K μ H ws vs → SimWs K μ H (ws.take n) (vs.take n)
  | _, _, 0, _ => .nil
  | _, _, _ + 1, .nil => .nil
  | _, _, n + 1, .cons h t => .cons h (SimWs.take n t)
theorem SimWs.cut {ws : List W} {vs : List V} (h : SimWs K μ H ws vs) (lo hi : Option Int) : SimWs K μ H (Mn.cut ws lo hi) (cutV vs lo hi) := by
  unfold Mn.cut cutV
  rw [SimWs_len h]
  exact (h.drop _).take _
theorem cut_map {α β : Type} (f : α → β) (xs : List α) (lo hi : Option Int) : Mn.cut (xs.map f) lo hi = (Mn.cut xs lo hi).map f := by
  unfold Mn.cut
  rw [List.length_map, ← List.map_drop, ← List.map_take]
def rSl3 (K : PySem.W.Frag) : V → Option Int → Option Int → Hp → VK → Prop := fun x lo hi H Q => rSlL K x lo hi H Q ∨ rSlA K x lo hi H Q ∨ rSlS x lo hi H Q
theorem sl_3 {X : Cx} : SlR X (rSl3 X.K) := sl_list.or (sl_tupA.or sl_str)
theorem cut_whole {α : Type} (xs : List α) (lo hi : Option Int) (h1 : Mn.sIx xs.length 0 lo = 0) (h2 : Mn.sIx xs.length xs.length hi = xs.length) : Mn.cut xs lo hi = xs := by
  unfold Mn.cut
  rw [h1, h2]
  simp
theorem slV_S (I : Sim P K μ s σ H) {x : R} {lo hi : Option Int} {v1 : V} {r : R} {Q : VK} (h1 : RepR P K μ s σ H x v1) (e : slV s x lo hi = some r)
    (h : ∀ μ' H' v, Aft P K μ s σ H μ' s H' → RepR P K μ' s σ H' r v → Frs H r v → Q v H') : rSl3 K v1 lo hi H Q := by
  unfold slV at e
  split at e
  · rename_i xs
    cases e
    obtain ⟨a, vs, rfl, rs, ha⟩ := I.seq (r := .w (.d (.tup xs))) h1 rfl
    have hl : xs.length = vs.length := by simpa using SimWs_len rs
    refine .inr (.inl ⟨a, vs, rfl, ha, fun z => ?_, fun z p hp => ?_⟩)
    · refine h μ H _ (.refl I) ?_ trivial
      rw [cut_whole xs lo hi (by rw [hl]; exact z.1) (by rw [hl]; exact z.2)]
      exact h1
    · obtain ⟨A, r3⟩ := newTup I (rs.cut lo hi) hp
      rw [cut_map, mkTup_map] at r3
      exact h μ _ _ A r3 trivial
  · rename_i a
    split at e <;> cases e
    rename_i hl
    obtain ⟨e3, ok⟩ := rep_str h1
    subst e3
    refine .inr (.inr ⟨sig a, rfl, by rw [sig_len, ← LN_eq]; exact hl, ?_⟩)
    have ec : cutS (sig a) lo hi = sig (Mn.cut a lo hi) := by
      unfold cutS Mn.cut
      simp [PySem.Str.length, sIx_eq]
    rw [ec]
    refine h μ H _ (.refl I) (SimW.d (.str _ fun c hc => ok c ?_)) trivial
    unfold Mn.cut at hc
    exact List.mem_of_mem_drop (List.mem_of_mem_take hc)
  · rename_i ns
    cases e
    cases (show SimW K μ H (.scr ns) v1 from h1) with
    | @scr a _ fz =>
      refine .inl ⟨a, _, rfl, fz.sq, fun p hp => ?_⟩
      have rr : SimWs K μ H ((Mn.cut ns lo hi).map fun i => W.d (.int i)) (cutV (ns.map V.int) lo hi) := by
        have key : ∀ l : List Int, SimWs K μ H (l.map fun i => W.d (.int i)) (l.map V.int) := fun l => by
          induction l with
          | nil => exact .nil
          | cons i l ih => exact .cons (.d (.int _)) ih
        have := (key ns).cut lo hi
        rw [cut_map] at this
        exact this
      obtain ⟨A, r3⟩ := newLst I rr hp
      exact h μ _ _ A r3 hp
  · cases q : objR s x with
    | none => rw [q] at e; cases e
    | some o =>
      rw [q] at e
      cases o with
      | dct _ _ => cases e
      | ins _ _ => cases e
      | lst ws =>
        cases e
        obtain ⟨a, rfl, ⟨vs, e2, rs⟩, _⟩ := I.obj h1 q
        refine .inl ⟨a, vs, rfl, .inl (.inl e2), fun p hp => ?_⟩
        obtain ⟨A, r3⟩ := newLst I (rs.cut lo hi) hp
        exact h μ _ _ A r3 hp
end
def tO (P : Pr) (K : PySem.W.Frag) (Wx : WX) (c : S → Res (Option Int)) : TO := fun σ H Q => ∃ μ s, Sim P K μ s σ H ∧ Pst P K Wx μ s σ H (c s) fun o s' μ' H' => Q o H'
section
variable {X : Cx} {P : Pr} {Wx : WX} {pos p2 : Pos} {a b c e : PySem.Expr} {ca cb cc : Ex} {lo hi : Option PySem.Expr} {cl ch : S → Res (Option Int)}
theorem s_ix (hu : X.A.units + 1 < cLine) (ha : PE X a (tE P X.K Wx ca)) (hb : PE X b (tE P X.K Wx cb)) (hs : PlainIx b) : PE X (.Subscript a b pos) (tE P X.K Wx (op2 ixV ca cb)) := PE_imp (PE_or (pe_ix ix_seq ha hb hs) (pe_dget hu ha hb hs)) fun σ H Q h => by
  obtain ⟨μ, s, I, h⟩ := h
  by_cases hd : ∃ x s1 y s2 z kvs, ca s = .ok x s1 ∧ cb s1 = .ok y s2 ∧ objR s2 x = some (.dct z kvs)
  · obtain ⟨x, s1, y, s2, z, kvs, e1, e2, e3⟩ := hd
    right
    refine ⟨μ, s, I, ?_⟩
    have h1 := Pst.bind h
    rw [e1] at h1 ⊢
    intro μ1 H1 A v1 r1 f1
    refine ⟨μ1, s1, A.sim, ?_⟩
    have h : Pst P X.K Wx μ s σ H ((cb s1).bind fun y s2 => match ixV s2 x y with
        | some r => Res.ok r s2
        | none => .bad) _ := h1 μ1 H1 A
    have h2 := (Pst.bind h).from A
    rw [e2] at h2 ⊢
    intro μ2 H2 B v2 r2 f2
    have h : Pst P X.K Wx μ s σ H (match ixV s2 x y with
        | some r => Res.ok r s2
        | none => .bad) _ := h2 μ2 H2 B
    obtain ⟨d, ps, rfl, rd, rs⟩ := B.sim.dict (r1.aft A.sim B) e3
    cases y with
    | new o => exact h.elim
    | slot i => exact h.elim
    | w y =>
      cases y with
      | ref _ => exact h.elim
      | scr _ => exact h.elim
      | tup _ => exact h.elim
      | d k =>
        have eq : ixV s2 x (.w (.d k)) = if k.isKey then (look kvs k).map R.w else none := by
          unfold ixV
          simp only [e3]
        rw [eq] at h
        by_cases hk : k.isKey = true
        · rw [if_pos hk] at h
          obtain ⟨kk, ek⟩ := keyD_some hk
          have ev : v2 = kV kk := by
            cases (show SimW X.K μ2 H2 (.d k) v2 from r2) with
            | d q => exact keyD_kV q ek
          cases q : look kvs k with
          | none => rw [q] at h; exact h.elim
          | some w =>
            rw [q] at h
            obtain ⟨v, e5, rv⟩ := (valV_of ek rs).1 w q
            exact ⟨d, v, rfl, .inl ⟨ps, kk, rd, ev, e5.symm⟩, h μ2 H2 (A.trans B) v rv trivial⟩
        · rw [if_neg hk] at h; exact h.elim
  · left
    refine tOp_at I h fun x s1 y s2 e1 e2 μ σ H v1 v2 r Q I h1 h2 e hq => ?_
    have nd : ∀ z kvs, objR s2 x ≠ some (.dct z kvs) := fun z kvs q => hd ⟨x, s1, y, s2, z, kvs, e1, e2, q⟩
    cases y with
    | new o => cases e
    | slot i => cases e
    | w y =>
      cases y with
      | ref _ => cases e
      | scr _ => cases e
      | tup _ => cases e
      | d k =>
        obtain ⟨i, rfl, e5⟩ : ∃ i, k = .int i ∧ ixSeq s2 x i = some r := by
          unfold ixV at e
          cases q : objR s2 x with
          | none => simp only [q] at e; cases k <;> first | (cases e; done) | exact ⟨_, rfl, e⟩
          | some o =>
            cases o with
            | dct z kvs => exact absurd q (nd z kvs)
            | lst ws => simp only [q] at e; cases k <;> first | (cases e; done) | exact ⟨_, rfl, e⟩
            | ins c fs => simp only [q] at e; cases k <;> first | (cases e; done) | exact ⟨_, rfl, e⟩
        rw [rep_int h2]
        exact ixSeq_S I h1 e5 hq
theorem o_none : PO X none (tO P X.K Wx noO) := ⟨fun pins s σ H Q I h => po_none.run pins s σ H Q I (by
  obtain ⟨μ, s, I, h⟩ := h
  exact Pst.ok_self I h)⟩
theorem o_some (ha : PE X a (tE P X.K Wx ca)) : PO X (some a) (tO P X.K Wx (someO ca)) := ⟨fun pins s σ H Q I h => (po_some ha).run pins s σ H Q I (by
  obtain ⟨μ, s, I, h⟩ := h
  refine ⟨μ, s, I, (Pst.bind h).mono fun r s1 μ1 H1 A h v rv fv => ?_⟩
  cases r with
  | new o => exact h.elim
  | slot i => exact h.elim
  | w y =>
    cases y with
    | ref _ => exact h.elim
    | scr _ => exact h.elim
    | tup _ => exact h.elim
    | d k =>
      cases k <;> first | exact h.elim | skip
      rename_i i
      exact ⟨i, rep_int rv, h μ1 H1 A⟩)⟩
theorem s_sl (ha : PE X a (tE P X.K Wx ca)) (hl : PO X lo (tO P X.K Wx cl)) (hh : PO X hi (tO P X.K Wx ch)) : PE X (.Subscript a (.Slice lo hi none p2) pos) (tE P X.K Wx (slE ca cl ch)) := PE_imp (pe_slice sl_3 ha hl hh) fun σ H Q h => by
  obtain ⟨μ, s, I, h⟩ := h
  refine ⟨μ, s, I, (Pst.bind h).mono fun r s1 μ1 H1 A h v1 r1 f1 => ?_⟩
  refine ⟨μ1, s1, A.sim, ((Pst.bind h).from A).mono fun l s2 μ2 H2 B h => ?_⟩
  have AB := A.trans B
  refine ⟨μ2, s2, B.sim, ((Pst.bind h).from AB).mono fun u s3 μ3 H3 C h => ?_⟩
  have ABC := AB.trans C
  cases q : slV s3 r l u with
  | none => rw [q] at h; exact h.elim
  | some r' =>
    rw [q] at h
    exact slV_S C.sim ((r1.aft A.sim B).aft B.sim C) q fun μ' H' v D r5 f5 => h μ' H' (ABC.trans D) v r5 (f5.back ABC.step.live)

/-! ### built-in calls -/
theorem CallR_or {f : PySem.Value} {r r' : List V → Hp → VK → Prop} (h : CallR X f r) (h' : CallR X f r') : CallR X f fun vs H Q => r vs H Q ∨ r' vs H Q := by
  intro pins s σ H vs us Q I rv q
  rcases q with q | q
  · exact h pins s σ H vs us Q I rv q
  · exact h' pins s σ H vs us Q I rv q
def CallS (P : Pr) (K : PySem.W.Frag) (r : List V → Hp → VK → Prop) (f : S → R → Option R) : Prop := ∀ (μ : List Addr) (s : S) (σ : L2.St) (H : Hp) (x : R) (v : V) (rr : R) (Q : VK), Sim P K μ s σ H → RepR P K μ s σ H x v → f s x = some rr →
  (∀ μ' H' v, Aft P K μ s σ H μ' s H' → RepR P K μ' s σ H' rr v → Frs H rr v → Q v H') → r [v] H Q
theorem tC1_of {K : PySem.W.Frag} {r : List V → Hp → VK → Prop} {f : S → R → Option R} (hf : CallS P K r f) {σ : L2.St} {H : Hp} {Q : VK} (h : tE P K Wx (op1 f ca) σ H Q) : tE P K Wx ca σ H fun x H1 => r [x] H1 Q := by
  obtain ⟨μ, s, I, h⟩ := h
  refine ⟨μ, s, I, (Pst.bind h).mono fun x s1 μ1 H1 A h v1 r1 f1 => ?_⟩
  cases q : f s1 x with
  | none => rw [q] at h; exact h.elim
  | some rr =>
    rw [q] at h
    exact hf μ1 s1 σ H1 x v1 rr Q A.sim r1 q fun μ' H' v C r3 f3 => h μ' H' (A.trans C) v r3 (f3.back A.step.live)
variable {x : PySem.Str} {p pos' : Pos} {id T : String} {r : List V → Hp → VK → Prop} {f : S → R → Option R}
theorem s_callB (hc : CallR X (.builtin id) r) (hr : CallS P X.K r f) (hg : Gl X x) (hm : X.mg x = none) (hv : bootBuiltins x = some (.builtin id)) (ha : PE X a (tE P X.K Wx ca)) (hn : x ≠ "__name__" := by decide) (hdb : (x == ("__debug__" : PySem.Str)) = false := by decide)
    (he : starEach [a] X.env = (false, eval a X.env) :: starEach [] X.env := by rfl) : PE X (.Call (.Name x p) [a] [] pos) (tE P X.K Wx (op1 f ca)) :=
  PE_imp (pe_callB hc hg hm hv (pa_cons ha pa_nil he) hn hdb he rfl) fun _ _ _ h => tC1_of hr h
theorem s_callTy (hc : CallR X (.type T) r) (hr : CallS P X.K r f) (hg : Gl X x) (hm : X.mg x = none) (hv : bootBuiltins x = some (.type T)) (ha : PE X a (tE P X.K Wx ca)) (hn : x ≠ "__name__" := by decide) (hdb : (x == ("__debug__" : PySem.Str)) = false := by decide)
    (he : starEach [a] X.env = (false, eval a X.env) :: starEach [] X.env := by rfl) : PE X (.Call (.Name x p) [a] [] pos) (tE P X.K Wx (op1 f ca)) :=
  PE_imp (pe_callTy hc hg hm hv (pa_cons ha pa_nil he) hn hdb he rfl) fun _ _ _ h => tC1_of hr h
end
end Mn

end
section
set_option Elab.async false
set_option linter.all false
set_option maxRecDepth 100000
set_option maxHeartbeats 4000000
/-! MnRule4: built-in calls one by one, isinstance, methods of lists. -/
namespace Mn
open PySem PySem.Spec PyProof.Rows L2
section
variable {P : Pr} {K : PySem.W.Frag}
def rLenA (K : PySem.W.Frag) : List V → Hp → VK → Prop := fun xs H Q => (∃ x n, xs = [x] ∧ LenV K x H n ∧ Q (.int n) H) ∨ ∃ a kvs, xs = [V.ref a] ∧ H a = some (.dK kvs) ∧ Q (.int kvs.length) H
theorem cr_lenA {X : Cx} : CallR X (.builtin "len") (rLenA X.K) := CallR_or call_len call_lenD
theorem len_S : CallS P K (rLenA K) lenV := fun μ s σ H x v rr Q I h1 e h => by
  have general : ∀ {x : R}, RepR P K μ s σ H x v → (match seqR s x with
      | some (_, ws) => some (iR ws.length)
      | none => match objR s x with
        | some (.dct false kvs) => some (iR kvs.length)
        | _ => none) = some rr → rLenA K [v] H Q := fun {x} h1 e => by
    cases q : seqR s x with
    | some p =>
      obtain ⟨k, ws⟩ := p
      rw [q] at e
      cases e
      obtain ⟨a, vs, rfl, rs, ha⟩ := I.seq h1 q
      refine .inl ⟨_, vs.length, rfl, ?_, ?_⟩
      · cases k with
        | true => exact .inl ⟨vs, .inl (.inl ha), rfl⟩
        | false => exact .inr ⟨vs, ha, rfl⟩
      · rw [← SimWs_len rs]
        exact h μ H _ (.refl I) rep_iR trivial
    | none =>
      rw [q] at e
      simp only at e
      cases q2 : objR s x with
      | none => rw [q2] at e; cases e
      | some o =>
        rw [q2] at e
        cases o with
        | lst _ => cases e
        | ins _ _ => cases e
        | dct z kvs =>
          cases z with
          | true => cases e
          | false =>
            cases e
            obtain ⟨a, rfl, ⟨ps, e2, rs⟩, _⟩ := I.obj h1 q2
            refine .inr ⟨a, ps, rfl, e2, ?_⟩
            rw [← Paired.length rs]
            exact h μ H _ (.refl I) rep_iR trivial
  unfold lenV at e
  split at e
  · rename_i a
    split at e <;> cases e
    rename_i hl
    obtain ⟨e3, ok⟩ := rep_str h1
    subst e3
    refine .inl ⟨_, a.length, rfl, ⟨by rw [sig_len, ← LN_eq]; exact hl, by rw [sig_len]⟩, ?_⟩
    exact h μ H _ (.refl I) rep_iR trivial
  · rename_i ns
    cases e
    cases (show SimW K μ H (.scr ns) v from h1) with
    | @scr a _ fz =>
      refine .inl ⟨_, ns.length, rfl, .inl ⟨_, fz.sq, by simp⟩, ?_⟩
      exact h μ H _ (.refl I) rep_iR trivial
  · exact general h1 e
theorem int_S : CallS P K (fun xs H Q => (∃ i, xs = [.int i] ∧ Q (.int i) H) ∨ ∃ k, xs = [.bl k] ∧ Q (.int (if k then 1 else 0)) H) intV := fun μ s σ H x v rr Q I h1 e h => by
  unfold intV at e
  split at e <;> cases e
  · rw [rep_int h1]; exact .inl ⟨_, rfl, h μ H _ (.refl I) rep_iR trivial⟩
  · rw [rep_bl h1]; exact .inr ⟨_, rfl, h μ H _ (.refl I) rep_iR trivial⟩
theorem abs_S : CallS P K (fun xs H Q => ∃ i, xs = [.int i] ∧ Q (.int (if i < 0 then -i else i)) H) absV := fun μ s σ H x v rr Q I h1 e h => by
  unfold absV at e
  split at e <;> cases e
  rw [rep_int h1]; exact ⟨_, rfl, h μ H _ (.refl I) rep_iR trivial⟩
theorem list_S : CallS P K (fun xs H Q => ∃ p ys, xs = [.ref p] ∧ (SqL K H p ys ∨ SqT K H p ys) ∧ ∀ l, H l = none → Q (.ref l) (upd H l (.lst ys))) listV := fun μ s σ H x v rr Q I h1 e h => by
  unfold listV at e
  obtain ⟨p, e1, rfl⟩ := Option.map_eq_some_iff.mp e
  obtain ⟨k, ws⟩ := p
  obtain ⟨a, vs, rfl, rs, ha⟩ := I.seq h1 e1
  refine ⟨a, vs, rfl, ?_, fun l hl => ?_⟩
  · cases k with
    | true => exact .inl (.inl (.inl ha))
    | false => exact .inr ha
  · obtain ⟨A, r3⟩ := newLst I rs hl
    exact h μ _ _ A r3 hl
theorem tuple_S : CallS P K (fun xs H Q => ∃ p ys, xs = [.ref p] ∧ ((SqL K H p ys ∧ ∀ l, H l = none → Q (.ref l) (upd H l (.tup ys))) ∨ (SqT K H p ys ∧ Q (.ref p) H))) tupleV := fun μ s σ H x v rr Q I h1 e h => by
  unfold tupleV at e
  obtain ⟨p, e1, rfl⟩ := Option.map_eq_some_iff.mp e
  obtain ⟨k, ws⟩ := p
  obtain ⟨a, vs, rfl, rs, ha⟩ := I.seq h1 e1
  cases k with
  | true =>
    refine ⟨a, vs, rfl, .inl ⟨.inl (.inl ha), fun l hl => ?_⟩⟩
    obtain ⟨A, r3⟩ := newTup I rs hl
    exact h μ _ _ A r3 trivial
  | false => exact ⟨a, vs, rfl, .inr ⟨ha, h μ H _ (.refl I) (SimW_mkTup rs ha) trivial⟩⟩
theorem RepDs_bls {H : Hp} : ∀ {xs : List D} {bs : List Bool} {vs : List V}, RepDs K H xs vs → bls xs = some bs → vs = bs.map V.bl
  | _, _, _, .nil, e => by simp [bls] at e; subst e; rfl
  | _, bs, _, .cons h t, e => by
    cases h <;> simp only [bls] at e <;> first | (cases e; done) | skip
    obtain ⟨cs, e1, e2⟩ := Option.map_eq_some_iff.mp e
    subst e2
    rw [RepDs_bls t e1]
    rfl
theorem RepDs_intD {H : Hp} : ∀ {xs : List D} {bs : List Int} {vs : List V}, RepDs K H xs vs → intsD xs = some bs → vs = bs.map V.int
  | _, _, _, .nil, e => by simp [intsD] at e; subst e; rfl
  | _, bs, _, .cons h t, e => by
    cases h <;> simp only [intsD] at e <;> first | (cases e; done) | skip
    obtain ⟨cs, e1, e2⟩ := Option.map_eq_some_iff.mp e
    subst e2
    rw [RepDs_intD t e1]
    rfl
theorem lstL_of {μ : List Addr} {s : S} {σ : L2.St} {H : Hp} {x : R} {v : V} {xs : List D} (I : Sim P K μ s σ H) (h : RepR P K μ s σ H x v) (e : lstL s x = some xs) : ∃ a vs, v = .ref a ∧ H a = some (.lst vs) ∧ RepDs K H xs vs := by
  unfold lstL at e
  split at e <;> first | (cases e; done) | skip
  rename_i q
  obtain ⟨a, rfl, ⟨vs, e2, rs⟩, _⟩ := I.obj h q
  exact ⟨a, vs, rfl, e2, RepDs_of rs e⟩
theorem all_S : CallS P K (rAll K) allV := fun μ s σ H x v rr Q I h1 e h => by
  unfold allV at e
  obtain ⟨bs, e1, rfl⟩ := Option.map_eq_some_iff.mp e
  obtain ⟨xs, e2, e3⟩ := Option.bind_eq_some_iff.mp e1
  obtain ⟨a, vs, rfl, ha, rs⟩ := lstL_of I h1 e2
  exact ⟨a, bs, rfl, .inl (.inl (by rw [ha, RepDs_bls rs e3])), h μ H _ (.refl I) rep_bR trivial⟩
theorem any_S : CallS P K (rAny K) anyV := fun μ s σ H x v rr Q I h1 e h => by
  unfold anyV at e
  obtain ⟨bs, e1, rfl⟩ := Option.map_eq_some_iff.mp e
  obtain ⟨xs, e2, e3⟩ := Option.bind_eq_some_iff.mp e1
  obtain ⟨a, vs, rfl, ha, rs⟩ := lstL_of I h1 e2
  exact ⟨a, bs, rfl, .inl (.inl (by rw [ha, RepDs_bls rs e3])), h μ H _ (.refl I) rep_bR trivial⟩
theorem sum_S : CallS P K (rSum K) sumV := fun μ s σ H x v rr Q I h1 e h => by
  unfold sumV at e
  obtain ⟨bs, e1, rfl⟩ := Option.map_eq_some_iff.mp e
  obtain ⟨xs, e2, e3⟩ := Option.bind_eq_some_iff.mp e1
  obtain ⟨a, vs, rfl, ha, rs⟩ := lstL_of I h1 e2
  exact ⟨a, bs, rfl, .inl (.inl (by rw [ha, RepDs_intD rs e3])), h μ H _ (.refl I) rep_iR trivial⟩

/-! ### isinstance -/
def Ty.name : Ty → String
  | .non => "NoneType"
  | .bool => "bool"
  | .int => "int"
  | .str => "str"
  | .tup => "tuple"
  | .lst => "list"
  | .dct => "dict"
theorem kit_ty (t T : Ty) : PySem.W.kitOne K (.type t.name) (.type T.name) = some (isiB t T) := by
  cases t <;> cases T <;> rfl
theorem tyX_tup {H : Hp} {a : Addr} {vs : List V} (h : SqT K H a vs) : TyX K H (.ref a) (.type "tuple") := by
  rcases h with (h | ⟨o, h⟩) | ⟨o, its, n, h1, h2, _⟩
  · exact .base (.tup h)
  · exact .fTuple h
  · exact .kTuple h1 h2
theorem tyR_of {μ : List Addr} {s : S} {σ : L2.St} {H : Hp} {x : R} {v : V} {t : Ty} (I : Sim P K μ s σ H) (h : RepR P K μ s σ H x v) (e : tyR s x = some t) : TyX K H v (.type t.name) := by
  have viaO : ∀ {x : R}, RepR P K μ s σ H x v → (match objR s x with
      | some (.lst _) => some Ty.lst
      | some (.dct _ _) => some Ty.dct
      | _ => none) = some t → TyX K H v (.type t.name) := fun {x} h e => by
    cases q : objR s x with
    | none => rw [q] at e; cases e
    | some o =>
      rw [q] at e
      obtain ⟨a, rfl, so, _⟩ := I.obj h q
      cases o with
      | ins _ _ => cases e
      | lst ws => cases e; obtain ⟨vs, e2, rs⟩ := so; exact .base (.lst e2)
      | dct z kvs =>
        cases e
        cases z with
        | false => obtain ⟨vs, e2, rs⟩ := so; exact .base (.dK e2)
        | true => obtain ⟨vs, o, e2, rs⟩ := so; exact .fDict e2
  cases x with
  | new o => exact viaO h e
  | slot i => exact viaO h e
  | w x =>
    cases x with
    | ref j => exact viaO h e
    | scr j => exact viaO h e
    | tup a =>
      cases e
      obtain ⟨a, vs, rfl, h1, h2⟩ := SimW_items (w := .tup a) h rfl
      exact tyX_tup h1
    | d x =>
      cases x with
      | non =>
        cases (show SimW K μ H _ v from h) with
        | d q => cases q; cases e; exact .base .non
      | bl k => rw [rep_bl h]; cases e; exact .base (.bl _)
      | int i => rw [rep_int h]; cases e; exact .base (.int _)
      | str a =>
        obtain ⟨e1, _⟩ := rep_str h
        rw [e1]; cases e; exact .base (.str _)
      | tup a =>
        cases e
        obtain ⟨a, vs, rfl, h1, h2⟩ := SimW_items (w := .d (.tup a)) h rfl
        exact tyX_tup h1
end
section
variable {X : Cx} {P : Pr} {Wx : WX} {pos p p2 : Pos} {a b c e : PySem.Expr} {ca cb cc : Ex} {x : PySem.Str}
theorem s_isi {T : Ty} (hT : bootBuiltins x = some (.type T.name)) (hg : Gl X "isinstance") (hm : X.mg "isinstance" = none) (hgx : Gl X x) (hmx : X.mg x = none) (ha : PE X a (tE P X.K Wx ca)) (hn : x ≠ "__name__" := by decide) (hdb : (x == ("__debug__" : PySem.Str)) = false := by decide)
    (he : starEach [a, .Name x p2] X.env = (false, eval a X.env) :: starEach [.Name x p2] X.env := by rfl) : PE X (.Call (.Name "isinstance" p) [a, .Name x p2] [] pos) (tE P X.K Wx (op1 (isiV T) ca)) :=
  PE_imp (pe_callB call_isi hg hm (by decide +kernel) (pa_cons ha (pa_cons (pe_bltn (v := .ty T.name) hgx hmx hT rfl hn hdb) pa_nil rfl) he) (by decide) (by decide) he rfl) fun σ H Q h => by
  obtain ⟨μ, s, I, h⟩ := h
  refine ⟨μ, s, I, (Pst.bind h).mono fun r s1 μ1 H1 A h v rv fv => ?_⟩
  cases q : isiV T s1 r with
  | none => rw [q] at h; exact h.elim
  | some r' =>
    rw [q] at h
    unfold isiV at q
    obtain ⟨t, e1, rfl⟩ := Option.map_eq_some_iff.mp q
    exact ⟨v, .ty T.name, .type t.name, .type T.name, isiB t T, rfl, .ty _, tyR_of A.sim rv e1, kit_ty t T, h μ1 H1 A _ rep_bR trivial⟩
end
end Mn

end
section
set_option Elab.async false
set_option linter.all false
set_option maxRecDepth 100000
set_option maxHeartbeats 4000000
/-! MnRule5: methods of lists; statements; loops. -/
namespace Mn
open PySem PySem.Spec PyProof.Rows L2
section
variable {P : Pr} {K : PySem.W.Frag} {μ μ' : List Addr} {s s' : S} {σ : L2.St} {H H' : Hp}
theorem setO_getO {x : Src} {o : O} (I : Sim P K μ s σ H) (h : getO s x = some o) {a : Addr} (ha : AtS μ s σ x a) : SimO P K μ H o a := by
  obtain ⟨b, hb, q⟩ := I.getOk h
  rw [I.at_inj ha hb]
  exact q
/-- the place of a result is a place of the state -/
theorem Sim.locAt (I : Sim P K μ s σ H) {r : R} {v : V} {x : Src} {o : O} (h : RepR P K μ s σ H r v) (e : locR s r = some x) (g : getO s x = some o) : ∃ a, v = .ref a ∧ AtS μ s σ x a ∧ SimO P K μ H o a := by
  have eo : objR s r = some o := by
    cases r with
    | new o' => cases (show (none : Option Src) = some x from e)
    | w y => show (match locR s (.w y) with | some x => getO s x | none => none) = _; rw [e]; exact g
    | slot i => show (match locR s (.slot i) with | some x => getO s x | none => none) = _; rw [e]; exact g
  obtain ⟨a, e1, q, f⟩ := I.obj h eo
  exact ⟨a, e1, (f x e).1, q⟩
theorem SimWs.snoc {ws : List W} {vs : List V} {w : W} {v : V} (h : SimWs K μ H ws vs) (q : SimW K μ H w v) : SimWs K μ H (ws ++ [w]) (vs ++ [v]) := h.append (.cons q .nil)
theorem SimWs.dropLast : ∀ {ws : List W} {vs : List V}, SimWs K μ H ws vs → SimWs K μ H ws.dropLast vs.dropLast
  | _, _, .nil => .nil
  | _, _, .cons h .nil => .nil
  | _, _, .cons h (.cons h' t) => .cons h (SimWs.dropLast (.cons h' t))
theorem SimWs.erase : ∀ {ws : List W} {vs : List V} (i : Nat), SimWs K μ H ws vs → SimWs K μ H (ws.eraseIdx i) (vs.eraseIdx i)
  | _, _, _, .nil => .nil
  | _, _, 0, .cons _ t => t
  | _, _, i + 1, .cons h t => .cons h (SimWs.erase i t)
theorem SimWs.set {w : W} {v : V} (q : SimW K μ H w v) : ∀ {ws : List W} {vs : List V} (i : Nat), SimWs K μ H ws vs → SimWs K μ H (ws.set i w) (vs.set i v)
  | _, _, _, .nil => .nil
  | _, _, 0, .cons _ t => .cons q t
  | _, _, i + 1, .cons h t => .cons h (SimWs.set q i t)
end
/-- a method's end by values: the receiver, the arguments as they were reckoned from H₀ -/
def MethS (P : Pr) (K : PySem.W.Frag) (rm : V → List V → Hp → VK → Prop) (f : S → R → List R → Option (R × S)) : Prop := ∀ (μ₀ : List Addr) (s₀ : S) (H₀ : Hp) (μ : List Addr) (s : S) (σ : L2.St) (H : Hp) (o : R) (v : V) (rs : List R) (vs : List V) (x : R) (s' : S) (Q : VK),
  Aft P K μ₀ s₀ σ H₀ μ s H → RepR P K μ s σ H o v → RepRs P K μ s σ H rs vs → (∀ a ∈ newsOf rs vs, H₀ a = none) → (∀ a, isNew o v a → a ∉ newsOf rs vs) → f s o rs = some (x, s') →
  (∀ μ' H' v, Aft P K μ₀ s₀ σ H₀ μ' s' H' → RepR P K μ' s' σ H' x v → Frs H₀ x v → Q v H') → rm v vs H Q
section
variable {X : Cx} {P : Pr} {Wx : WX} {pos p p2 apos cpos : Pos} {a b c e o : PySem.Expr} {es : List PySem.Expr} {ca cb cc co : Ex} {ct : As} {name : PySem.Str} {id : String} {rm : V → List V → Hp → VK → Prop} {f : S → R → List R → Option (R × S)}
theorem tM_of {K : PySem.W.Frag} (hf : MethS P K rm f) {σ : L2.St} {H : Hp} {Q : VK} (h : tE P K Wx (meth f co ct) σ H Q) : tBM K "list" rm (tE P K Wx co) (tA P K Wx ct) σ H Q := by
  obtain ⟨μ, s, I, h⟩ := h
  refine ⟨μ, s, I, (Pst.bind h).mono fun r s1 μ1 H1 A h v rv fv => ?_⟩
  by_cases hl : isLst s1 r = true
  · rw [if_pos hl] at h
    refine ⟨?_, μ1, s1, A.sim, ((Pst.bind h).from A).mono fun rs s2 μ2 H2 B h vs rvs fvs => ?_⟩
    · unfold isLst at hl
      split at hl <;> first | (cases hl; done) | skip
      rename_i q
      obtain ⟨a, rfl, ⟨vs, e2, _⟩, _⟩ := A.sim.obj rv q
      exact .inl ⟨rfl, vs, .inl (.inl e2)⟩
    · cases q : f s2 r rs with
      | none => rw [q] at h; exact h.elim
      | some y =>
        obtain ⟨x, s3⟩ := y
        rw [q] at h
        refine hf μ s H μ2 s2 σ H2 r v rs vs x s3 Q (A.trans B) (rv.aft A.sim B) rvs (fun a ha => A.step.live a (fvs a ha)) (fun a hn hm => ?_) q (fun μ' H' v A r f => h μ' H' A v r f)
        obtain ⟨⟨o, rfl⟩, rfl⟩ := hn
        obtain ⟨b, e3, q3, _⟩ := rv
        cases e3
        exact q3.notup.2.2 (fvs _ hm)
  · rw [if_neg hl] at h; exact h.elim
theorem s_meth (slot : Slot "list" name id) (hty : typeOf (.builtin id) = pure (.type "method_descriptor")) (hm : MtR X id rm) (hf : MethS P X.K rm f) (ho : PE X o (tE P X.K Wx co)) (ha : PA X (e :: es) (tA P X.K Wx ct))
    (hbase : attributeBase o name X.env (eval o X.env) = eval o X.env := by rfl)
    (hfew : ((backTo cpos (starEach (e :: es) X.env)).all (fun x => !x.1) && (backToKw cpos (keywordEach [] X.env)).all (fun x => x.1.isSome)
      && decide ((e :: es).length + ([] : List Keyword).length + (if ([] : List Keyword).isEmpty then 0 else 1) < 30)) = true := by rfl)
    (hline : (apos.endLine == cpos.line) = true := by rfl) (hs : starEach (e :: es) X.env = (false, eval e X.env) :: starEach es X.env := by rfl) (hplain : (backTo cpos (starEach es X.env)).any (·.1) = false := by rfl) :
    PE X (.Call (.Attribute o name apos) (e :: es) [] cpos) (tE P X.K Wx (meth f co ct)) := PE_imp (pe_bm PySem.F.plainAttrs_list slot hty hm ho ha hbase hfew hline hs hplain) fun _ _ _ h => tM_of hf h
theorem s_meth0 (slot : Slot "list" name id) (hty : typeOf (.builtin id) = pure (.type "method_descriptor")) (hm : MtR X id rm) (hf : MethS P X.K rm f) (ho : PE X o (tE P X.K Wx co))
    (hbase : attributeBase o name X.env (eval o X.env) = eval o X.env := by rfl) (hline : (apos.endLine == cpos.line) = true := by rfl) : PE X (.Call (.Attribute o name apos) [] [] cpos) (tE P X.K Wx (meth f co asN)) :=
  PE_imp (pe_bm0 PySem.F.plainAttrs_list slot hty hm ho hbase hline) fun σ H Q h => by
  obtain ⟨μ, s, I, h⟩ := h
  refine ⟨μ, s, I, (Pst.bind h).mono fun r s1 μ1 H1 A h v rv fv => ?_⟩
  by_cases hl : isLst s1 r = true
  · rw [if_pos hl] at h
    refine ⟨?_, ?_⟩
    · unfold isLst at hl
      split at hl <;> first | (cases hl; done) | skip
      rename_i q
      obtain ⟨a, rfl, ⟨vs, e2, _⟩, _⟩ := A.sim.obj rv q
      exact .inl ⟨rfl, vs, .inl (.inl e2)⟩
    · have h : Pst P X.K Wx μ s σ H (match f s1 r [] with
        | some (x, s3) => Res.ok x s3
        | none => .bad) _ := h
      cases q : f s1 r [] with
      | none => rw [q] at h; exact h.elim
      | some y =>
        obtain ⟨x, s3⟩ := y
        rw [q] at h
        exact hf μ s H μ1 s1 σ H1 r v [] [] x s3 Q A rv .nil (by simp [newsOf]) (by simp [newsOf]) q (fun μ' H' v A r f => h μ' H' A v r f)
  · rw [if_neg hl] at h; exact h.elim
end
section
variable {P : Pr} {K : PySem.W.Frag}
/-- a list that stands somewhere is rewritten -/
theorem putList {μ₀ : List Addr} {s₀ : S} {H₀ : Hp} {μ : List Addr} {s : S} {σ : L2.St} {H : Hp} {x : Src} {ws ws' : List W} {vs' : List V} {a : Addr} (A : Aft P K μ₀ s₀ σ H₀ μ s H) (g : getO s x = some (.lst ws)) (ha : AtS μ s σ x a) (r : SimWs K μ H ws' vs') :
    Aft P K μ₀ s₀ σ H₀ μ (setO s x (.lst ws')) (upd H a (.lst vs')) := by
  have fa := ha.foot
  obtain ⟨n1, n2, n3⟩ := A.sim.notup fa
  refine A.trans (A.sim.write g (fun _ z => nomatch z) ha ⟨vs', upd_same, r.mono (tups_of (fun b xs q => ?_) fun b o xs e => by rw [upd_ne fun z => by subst z; exact A.sim.nofl fa o xs e]; exact e) (List.prefix_refl _)⟩)
  have hb : b ≠ a := fun z => by subst z; exact n1 xs q
  rcases q with q | ⟨w, q⟩
  · exact .inl (by rw [upd_ne hb]; exact q)
  · exact .inr ⟨w, by rw [upd_ne hb]; exact q⟩
theorem tups_upd {μ : List Addr} {s : S} {σ : L2.St} {H : Hp} {a : Addr} {u : HO} (I : Sim P K μ s σ H) (fa : foot μ s σ a) : Tups K H (upd H a u) := by
  obtain ⟨n1, n2, n3⟩ := I.notup fa
  refine tups_of (fun b xs q => ?_) fun b o xs e => by rw [upd_ne fun z => by subst z; exact I.nofl fa o xs e]; exact e
  have hb : b ≠ a := fun z => by subst z; exact n1 xs q
  rcases q with q | ⟨w, q⟩
  · exact .inl (by rw [upd_ne hb]; exact q)
  · exact .inr ⟨w, by rw [upd_ne hb]; exact q⟩
theorem append_M : MethS P K rAppend appendV := fun μ₀ s₀ H₀ μ s σ H o v rs vs x s' Q A rv rvs fvs nn e h => by
  unfold appendV at e
  split at e <;> first | (cases e; done) | skip
  rename_i r
  cases vs with
  | nil => cases rvs.all
  | cons y vs =>
    obtain ⟨r1, r2, _⟩ := rvs.uncons
    cases r2.all
    cases q : boxR r s with
    | none => rw [q] at e; cases e
    | some z =>
      obtain ⟨w, s1⟩ := z
      simp only [q] at e
      obtain ⟨μ1, B, sw⟩ := A.sim.box r1 q
      have A1 := B.aft A fun a ha => fvs a (by obtain ⟨⟨o, rfl⟩, rfl⟩ := ha; simp [newsOf])
      have rv1 : RepR P K μ1 s1 σ H o v := rv.bx B fun a hn ha => nn a hn (by obtain ⟨⟨o, rfl⟩, rfl⟩ := ha; simp [newsOf])
      cases q2 : locR s1 o with
      | none => simp only [q2] at e; cases e
      | some p =>
        simp only [q2] at e
        cases q3 : getO s1 p with
        | none => simp only [q3] at e; cases e
        | some ob =>
          simp only [q3] at e
          cases ob with
          | dct _ _ => cases e
          | ins _ _ => cases e
          | lst ws =>
            simp only at e
            split at e <;> cases e
            rename_i hl
            obtain ⟨a, rfl, ha, ⟨us, e2, rs⟩⟩ := A1.sim.locAt rv1 q2 q3
            refine ⟨a, us, y, rfl, rfl, e2, by rw [← SimWs_len rs, ← LN_eq]; exact hl, ?_⟩
            exact h μ1 _ _ (putList A1 q3 ha (rs.snoc sw)) (SimW.d .non) trivial
def rPop2 : V → List V → Hp → VK → Prop := fun x vs H Q => rPop x vs H Q ∨ rPopAt x vs H Q
theorem mt_pop2 {X : Cx} : MtR X "list.pop" rPop2 := MtR.or mt_pop mt_popAt
theorem SimWs_last {μ : List Addr} {H : Hp} {ws : List W} {vs : List V} {w : W} (h : SimWs K μ H ws vs) (e : ws.getLast? = some w) : ∃ v, vs[vs.length - 1]? = some v ∧ SimW K μ H w v := by
  rw [List.getLast?_eq_getElem?] at e
  rw [← SimWs_len h]
  exact SimWs_get h e
theorem pop_M : MethS P K rPop2 popV := fun μ₀ s₀ H₀ μ s σ H o v rs vs x s' Q A rv rvs fvs nn e h => by
  unfold popV at e
  split at e <;> first | (cases e; done) | skip
  · cases rvs.all
    cases q2 : locR s o with
    | none => simp only [q2] at e; cases e
    | some p =>
      simp only [q2] at e
      cases q3 : getO s p with
      | none => simp only [q3] at e; cases e
      | some ob =>
        simp only [q3] at e
        cases ob with
        | dct _ _ => cases e
        | ins _ _ => cases e
        | lst ws =>
          simp only at e
          cases q4 : ws.getLast? with
          | none => simp only [q4] at e; cases e
          | some w =>
            simp only [q4] at e
            cases e
            obtain ⟨a, rfl, ha, ⟨us, e2, rs⟩⟩ := A.sim.locAt rv q2 q3
            obtain ⟨v, e5, rw'⟩ := SimWs_last rs q4
            refine .inl ⟨a, us, v, rfl, rfl, e2, e5, ?_⟩
            exact h μ _ _ (putList A q3 ha rs.dropLast) (SimW.mono (tups_upd A.sim ha.foot) (List.prefix_refl _) rw') trivial
  · rename_i i
    cases vs with
    | nil => cases rvs.all
    | cons y vs =>
      obtain ⟨r1, r2, _⟩ := rvs.uncons
      cases r2.all
      cases rep_int r1
      cases q2 : locR s o with
      | none => simp only [q2] at e; cases e
      | some p =>
        simp only [q2] at e
        cases q3 : getO s p with
        | none => simp only [q3] at e; cases e
        | some ob =>
          simp only [q3] at e
          cases ob with
          | dct _ _ => cases e
          | ins _ _ => cases e
          | lst ws =>
            simp only at e
            split at e <;> first | (cases e; done) | skip
            rename_i hi
            cases q4 : Mn.ixN ws.length i with
            | none => simp only [q4] at e; cases e
            | some j =>
              simp only [q4] at e
              cases q5 : ws[j]? with
              | none => simp only [q5] at e; cases e
              | some w =>
                simp only [q5] at e
                cases e
                obtain ⟨a, rfl, ha, ⟨us, e2, rs⟩⟩ := A.sim.locAt rv q2 q3
                obtain ⟨v, e5, rw'⟩ := SimWs_get rs q5
                have hl := SimWs_len rs
                rw [ixN_eq, hl] at q4
                obtain ⟨h1, h2, h3, h4⟩ := ixN_seq q4
                refine .inr ⟨a, us, i, j, v, rfl, rfl, e2, hi.1, hi.2, h1, e5, ?_⟩
                · exact h μ _ _ (putList A q3 ha (rs.erase j)) (SimW.mono (tups_upd A.sim ha.foot) (List.prefix_refl _) rw') trivial
def rInsA : V → List V → Hp → VK → Prop := fun x vs H Q => ∃ (l : Addr) (xs : List V) (i : Int) (y : V), x = .ref l ∧ vs = [.int i, y] ∧ H l = some (.lst xs) ∧ xs.length < sizeLine ∧ 0 ≤ i ∧ i < 2 ^ 63 ∧
    Q .non (upd H l (.lst (xs.take i.toNat ++ [y] ++ xs.drop i.toNat)))
theorem mt_insA {X : Cx} : MtR X "list.insert" rInsA := mt_insert
theorem insert_M : MethS P K rInsA insertV := fun μ₀ s₀ H₀ μ s σ H o v rs vs x s' Q A rv rvs fvs nn e h => by
  unfold insertV at e
  split at e <;> first | (cases e; done) | skip
  rename_i i r
  match vs, rvs with
  | [], rvs => cases rvs.all
  | [_], rvs => cases rvs.uncons.2.1.all
  | y0 :: y :: vs, rvs =>
    obtain ⟨r0, r12, _⟩ := rvs.uncons
    obtain ⟨r1, r2, _⟩ := r12.uncons
    cases r2.all
    cases rep_int r0
    cases q : boxR r s with
    | none => rw [q] at e; cases e
    | some z =>
      obtain ⟨w, s1⟩ := z
      simp only [q] at e
      obtain ⟨μ1, B, sw⟩ := A.sim.box r1 q
      have A1 := B.aft A fun a ha => fvs a (by obtain ⟨⟨o, rfl⟩, rfl⟩ := ha; simp [newsOf])
      have rv1 : RepR P K μ1 s1 σ H o v := rv.bx B fun a hn ha => nn a hn (by obtain ⟨⟨o, rfl⟩, rfl⟩ := ha; simp [newsOf])
      cases q2 : locR s1 o with
      | none => simp only [q2] at e; cases e
      | some p =>
        simp only [q2] at e
        cases q3 : getO s1 p with
        | none => simp only [q3] at e; cases e
        | some ob =>
          simp only [q3] at e
          cases ob with
          | dct _ _ => cases e
          | ins _ _ => cases e
          | lst ws =>
            simp only at e
            split at e <;> cases e
            rename_i hl
            obtain ⟨a, rfl, ha, ⟨us, e2, rs⟩⟩ := A1.sim.locAt rv1 q2 q3
            refine ⟨a, us, i, y, rfl, rfl, e2, by rw [← SimWs_len rs, ← LN_eq]; exact hl.1, hl.2.1, hl.2.2, ?_⟩
            exact h μ1 _ _ (putList A1 q3 ha (((rs.take _).append (.cons sw .nil)).append (rs.drop _))) (SimW.d .non) trivial
end
/-! ### statements -/
def PstS (P : Pr) (K : PySem.W.Frag) (Wx : WX) (μ : List Addr) (s : S) (σ : L2.St) (H : Hp) (x : Out) (D : Ends) : Prop := match x with
  | .nx s' => ∀ μ' σ' H', AftS P K μ s σ H μ' s' σ' H' → D.nx σ' H'
  | .rt r s' => ∀ μ' σ' H' v, AftS P K μ s σ H μ' s' σ' H' → RepR P K μ' s' σ' H' r v → Frs H r v → D.rt v H'
  | .bk s' => ∀ μ' σ' H', AftS P K μ s σ H μ' s' σ' H' → D.bk σ' H'
  | .ct s' => ∀ μ' σ' H', AftS P K μ s σ H μ' s' σ' H' → D.ct σ' H'
  | .exc c xs s' => ∀ μ' σ' H' d, AftS P K μ s σ H μ' s' σ' H' → ExcAt P K μ' s' σ' H' xs d → Wx (.ref (P.ca c)) (some d) σ' H'
  | .bad => False
def tS (P : Pr) (K : PySem.W.Frag) (Wx : WX) (c : Mn.St) : TS := fun D σ H => ∃ μ s, Sim P K μ s σ H ∧ PstS P K Wx μ s σ H (c s) D
section
variable {P : Pr} {K : PySem.W.Frag} {Wx : WX} {μ μ' : List Addr} {s s' : S} {σ σ' : L2.St} {H H' : Hp} {α : Type}
theorem AftS.refl (I : Sim P K μ s σ H) : AftS P K μ s σ H μ s σ H := (Aft.refl I).toS
theorem Frs.backS {r : R} {v : V} (A : AftS P K μ s σ H μ' s' σ' H') (h : Frs H' r v) : Frs H r v := h.back A.step.live
theorem PstS.from {x : Out} {D : Ends} (A : AftS P K μ s σ H μ' s' σ' H') (h : PstS P K Wx μ s σ H x D) : PstS P K Wx μ' s' σ' H' x D := by
  cases x with
  | nx s' => exact fun μ2 σ2 H2 B => h μ2 σ2 H2 (A.trans B)
  | rt r s' => exact fun μ2 σ2 H2 v B r1 f => h μ2 σ2 H2 v (A.trans B) r1 (f.backS A)
  | bk s' => exact fun μ2 σ2 H2 B => h μ2 σ2 H2 (A.trans B)
  | ct s' => exact fun μ2 σ2 H2 B => h μ2 σ2 H2 (A.trans B)
  | exc c xs s' => exact fun μ2 σ2 H2 d B => h μ2 σ2 H2 d (A.trans B)
  | bad => exact h
/-- .. the base stays -/
theorem PstS.res' {x : Res α} {k : α → S → Out} {D : Ends} (A : AftS P K μ s σ H μ' s' σ' H') (h : PstS P K Wx μ s σ H (ofRes x k) D) : Pst P K Wx μ' s' σ' H' x fun a s1 μ1 H1 => PstS P K Wx μ s σ H (k a s1) D := by
  cases x with
  | ok a s1 => exact fun _ _ _ => h
  | exc c xs s1 => exact fun μ2 H2 d B e => h μ2 σ' H2 d (A.trans B.toS) e
  | bad => exact h
theorem PstS.res {x : Res α} {k : α → S → Out} {D : Ends} (h : PstS P K Wx μ s σ H (ofRes x k) D) : Pst P K Wx μ s σ H x fun a s1 μ1 H1 => PstS P K Wx μ s σ H (k a s1) D := by
  cases x with
  | ok a s1 => exact fun _ _ _ => h
  | exc c xs s1 => exact fun μ' H' d A e => h μ' σ H' d A.toS e
  | bad => exact h
end
section
variable {X : Cx} {P : Pr} {Wx : WX} {pos pos' p p2 : Pos} {a b c e o : PySem.Expr} {ca cb cc co : Ex} {st : PySem.Stmt} {rest l1 l2 : List PySem.Stmt} {cs ct : Mn.St} {ta : Tm}
theorem c_nil : PSs X [] (tS P X.K Wx nxS) := PSs_imp pss_nil fun D σ H h => by
  obtain ⟨μ, s, I, h⟩ := h
  exact h μ σ H (.refl I)
theorem c_cons (h1 : PS X st (tS P X.K Wx cs)) (h2 : PSs X rest (tS P X.K Wx ct)) : PSs X (st :: rest) (tS P X.K Wx (seqS cs ct)) := PSs_imp (pss_cons h1 h2) fun D σ H h => by
  obtain ⟨μ, s, I, h⟩ := h
  refine ⟨μ, s, I, ?_⟩
  unfold seqS at h
  cases q : cs s with
  | nx s1 =>
    rw [q] at h
    exact fun μ1 σ1 H1 A => ⟨μ1, s1, A.sim, h.from A⟩
  | rt r s1 => rw [q] at h; exact h
  | bk s1 => rw [q] at h; exact h
  | ct s1 => rw [q] at h; exact h
  | exc c xs s1 => rw [q] at h; exact h
  | bad => rw [q] at h; exact h
theorem c_one (h1 : PS X st (tS P X.K Wx cs)) : PSs X [st] (tS P X.K Wx cs) := pss_one h1
theorem c_pass : PS X (.Pass pos) (tS P X.K Wx nxS) := PS_imp ps_pass fun D σ H h => by
  obtain ⟨μ, s, I, h⟩ := h
  exact h μ σ H (.refl I)
theorem c_brk : PS X (.Break pos) (tS P X.K Wx brkS) := PS_imp ps_break fun D σ H h => by
  obtain ⟨μ, s, I, h⟩ := h
  exact h μ σ H (.refl I)
theorem c_cont : PS X (.Continue pos) (tS P X.K Wx ctS) := PS_imp ps_continue fun D σ H h => by
  obtain ⟨μ, s, I, h⟩ := h
  exact h μ σ H (.refl I)
theorem c_expr (he : PE X e (tE P X.K Wx ca)) (hs : swapsWith e none pos.line X.env = pure false := by rfl) : PS X (.Expr e pos) (tS P X.K Wx (exprS ca)) := PS_imp (ps_expr he hs) fun D σ H h => by
  obtain ⟨μ, s, I, h⟩ := h
  exact ⟨μ, s, I, (PstS.res h).mono fun r s1 μ1 H1 A h v rv fv => h μ1 σ H1 A.toS⟩
theorem c_ret (he : PE X e (tE P X.K Wx ca)) : PS X (.Return (some e) pos) (tS P X.K Wx (retS ca)) := PS_imp (ps_ret he) fun D σ H h => by
  obtain ⟨μ, s, I, h⟩ := h
  exact ⟨μ, s, I, (PstS.res h).mono fun r s1 μ1 H1 A h v rv fv => h μ1 σ H1 v A.toS rv fv⟩
theorem c_retN : PS X (.Return none pos) (tS P X.K Wx (retS (kE .non))) := PS_imp ps_retN fun D σ H h => by
  obtain ⟨μ, s, I, h⟩ := h
  exact h μ σ H .non (.refl I) (SimW.d .non) trivial
theorem c_if (hc : PT X c (tT P X.K Wx ta)) (ha : PSs X l1 (tS P X.K Wx cs)) (hb : PSs X l2 (tS P X.K Wx ct)) : PS X (.If c l1 l2 pos) (tS P X.K Wx (ifS ta cs ct)) := PS_imp (ps_if hc ha hb) fun D σ H h => by
  obtain ⟨μ, s, I, h⟩ := h
  refine ⟨μ, s, I, (PstS.res h).mono fun r s1 μ1 H1 A h => ?_⟩
  cases r with
  | true => exact ⟨μ1, s1, A.sim, h.from A.toS⟩
  | false => exact ⟨μ1, s1, A.sim, h.from A.toS⟩
theorem c_set {i : Nat} {x : PySem.Str} (hN : X.N.Nodup) (hi : X.N[i]? = some x) (hx : Loc X.env.scope x) (he : PE X e (tE P X.K Wx ca)) (hs : swapsWith e (some (.Name x pos')) pos.line X.env = pure false := by rfl)
    (hf : X.fn x = true ∨ X.env.scope.names.lookup x = some .local := by first | exact .inl rfl | exact .inr rfl | assumption) : PS X (.Assign [.Name x pos'] e pos) (tS P X.K Wx (setS i ca)) := PS_imp (ps_set hN hi hx he hs hf) fun D σ H h => by
  obtain ⟨μ, s, I, h⟩ := h
  refine ⟨μ, s, I, (PstS.res h).mono fun r s1 μ1 H1 A h v rv fv => ?_⟩
  cases q : asg i r s1 with
  | none => rw [q] at h; exact h.elim
  | some s2 =>
    rw [q] at h
    obtain ⟨μ2, A2⟩ := Sim.asgOk A.toS rv fv q
    exact h μ2 _ H1 A2
end
end Mn

end
section
set_option Elab.async false
set_option linter.all false
set_option maxRecDepth 100000
set_option maxHeartbeats 4000000
/-! MnRule6: targets, stores, while. -/
namespace Mn
open PySem PySem.Spec PyProof.Rows L2
theorem PG_imp {X : Cx} {e : PySem.Expr} {t t' : TG} (h : PG X e t) (i : ∀ v σ H Q, t' v σ H Q → t v σ H Q) : PG X e t' := ⟨fun pins s σ H v u Q I r q => h.run pins s σ H v u Q I r (i v σ H Q q)⟩
theorem PGs_imp {X : Cx} {e : List PySem.Expr} {t t' : TGs} (h : PGs X e t) (i : ∀ v σ H Q, t' v σ H Q → t v σ H Q) : PGs X e t' := ⟨fun pins s σ H v u Q I r q => h.run pins s σ H v u Q I r (i v σ H Q q)⟩
theorem PS_or {X : Cx} {e : PySem.Stmt} {t t' : TS} (h : PS X e t) (h' : PS X e t') : PS X e fun D σ H => t D σ H ∨ t' D σ H := ⟨fun pins s σ H D I q => q.elim (h.run pins s σ H D I) (h'.run pins s σ H D I)⟩
def tG (P : Pr) (K : PySem.W.Frag) (vs : List Nat) (t : Tg) : TG := fun v σ H Q => ∃ (μ0 : List Addr) (s0 : S) (σ0 : L2.St) (H0 : Hp) (μ : List Addr) (s : S) (r : R) (s' : S), AftS P K μ0 s0 σ0 H0 μ s σ H ∧ RepR P K μ s σ H r v ∧ Frs H0 r v ∧ t r s = some s' ∧
  ∀ μ' σ', AftS P K μ0 s0 σ0 H0 μ' s' σ' H → L2.wipe σ' vs = L2.wipe σ vs → Q σ' H
def tGs (P : Pr) (K : PySem.W.Frag) (vs : List Nat) (ts : List Tg) : TGs := fun xs σ H Q => ∃ (μ : List Addr) (s : S) (ws : List W) (s' : S), Sim P K μ s σ H ∧ SimWs K μ H ws xs ∧ tgs ts ws s = some s' ∧
  ∀ μ' σ', AftS P K μ s σ H μ' s' σ' H → L2.wipe σ' vs = L2.wipe σ vs → Q σ' H
theorem wipe_set {σ : L2.St} {i : Nat} {x : Option V} : ∀ {vs : List Nat}, i ∈ vs → L2.wipe (σ.set i x) vs = L2.wipe σ vs
  | [], h => by simp at h
  | v :: vs, h => by
    unfold L2.wipe
    rcases List.mem_cons.mp h with rfl | h
    · have key : ∀ ws : List Nat, (L2.wipe (σ.set i x) ws).set i none = (L2.wipe σ ws).set i none := fun ws => by
        induction ws with
        | nil => unfold L2.wipe; rw [List.set_set]
        | cons w ws ih =>
          unfold L2.wipe
          by_cases hw : w = i
          · subst hw; rw [List.set_set, List.set_set]; exact ih
          · rw [List.set_comm _ _ hw, ih, List.set_comm _ _ (Ne.symm hw)]
      exact key vs
    · rw [wipe_set h]
section
variable {X : Cx} {P : Pr} {Wx : WX} {pos pos' p p2 : Pos} {a b c e o i : PySem.Expr} {ca cb cc co ci : Ex} {vs : List Nat} {t : Tg} {ts : List Tg} {es : List PySem.Expr}
theorem g_name {i : Nat} {x : PySem.Str} (hN : X.N.Nodup) (hi : X.N[i]? = some x) (hx : Loc X.env.scope x) (hv : i ∈ vs) (hf : X.fn x = true ∨ X.env.scope.names.lookup x = some .local := by first | exact .inl rfl | exact .inr rfl | assumption) :
    PG X (.Name x pos) (tG P X.K vs (tgV i)) := PG_imp (pg_name hN hi hx hf) fun v σ H Q h => by
  obtain ⟨μ0, s0, σ0, H0, μ, s, r, s', A, rv, fv, e, h⟩ := h
  obtain ⟨μ2, A2⟩ := Sim.asgOk A rv fv e
  exact h μ2 _ A2 (wipe_set hv)
theorem gs_nil : PGs X [] (tGs P X.K vs []) := PGs_imp pgs_nil fun v σ H Q h => by
  obtain ⟨μ, s, ws, s', I, rs, e, h⟩ := h
  cases ws with
  | nil =>
    cases rs
    cases e
    exact ⟨rfl, h μ σ (.refl I) rfl⟩
  | cons w ws => cases e
theorem gs_cons (h1 : PG X e (tG P X.K vs t)) (h2 : PGs X es (tGs P X.K vs ts)) (hs : (assignEach (e :: es) X.env).map (·.2) = assign e X.env :: (assignEach es X.env).map (·.2) := by rfl) : PGs X (e :: es) (tGs P X.K vs (t :: ts)) := PGs_imp (pgs_cons h1 h2 hs) fun v σ H Q h => by
  obtain ⟨μ, s, ws, s', I, rs, e, h⟩ := h
  cases ws with
  | nil => cases e
  | cons w ws =>
    cases rs with
    | @cons _ u _ us r rs =>
      have e : (match t (.w w) s with
        | some s1 => tgs ts ws s1
        | none => none) = some s' := e
      cases q : t (.w w) s with
      | none => rw [q] at e; cases e
      | some s1 =>
        rw [q] at e
        refine ⟨u, us, rfl, μ, s, σ, H, μ, s, .w w, s1, .refl I, r, trivial, q, fun μ1 σ1 A1 w1 => ?_⟩
        exact ⟨μ1, s1, ws, s', A1.sim, rs.mono Tups.refl A1.pre, e, fun μ2 σ2 A2 w2 => h μ2 σ2 (A1.trans A2) (w2.trans w1)⟩
theorem tgs_len : ∀ {ts : List Tg} {ws : List W} {s s' : S}, tgs ts ws s = some s' → ws.length = ts.length
  | [], [], _, _, _ => rfl
  | [], _ :: _, _, _, h => nomatch h
  | _ :: _, [], _, _, h => nomatch h
  | t :: ts, w :: ws, s, s', h => by
    have h : (match t (.w w) s with
        | some s1 => tgs ts ws s1
        | none => none) = some s' := h
    cases q : t (.w w) s with
    | none => rw [q] at h; cases h
    | some s1 => rw [q] at h; simp [tgs_len h]
theorem g_tup {k : Nat} (hc : X.calm = true) (h : PGs X es (tGs P X.K vs ts)) (hl : ts.length = es.length := by rfl) (hn : (assignEach es X.env).length = es.length := by rfl) (hst : (assignEach es X.env).findIdx? (·.1) = none := by rfl) :
    PG X (.Tuple es k pos) (tG P X.K vs (tgT ts)) := PG_imp (pg_tup (n := es.length) hc h hn hst) fun v σ H Q h => by
  obtain ⟨μ0, s0, σ0, H0, μ, s, r, s', A, rv, fv, e, h⟩ := h
  cases r with
  | new o => cases e
  | slot j => cases e
  | w x =>
    have e : (match x.items with
      | some ws => tgs ts ws s
      | none => none) = some s' := e
    cases q : x.items with
    | none => rw [q] at e; cases e
    | some ws =>
      rw [q] at e
      obtain ⟨a, us, rfl, ha, rs⟩ := SimW_items rv q
      exact ⟨a, us, rfl, ha, by rw [← SimWs_len rs, tgs_len e, hl], μ, s, ws, s', A.sim, rs, e, fun μ' σ' B w => h μ' σ' (A.trans B) w⟩
/-- target = value -/
theorem c_unp {tg : PySem.Expr} (he : PE X e (tE P X.K Wx ca)) (hg : PG X tg (tG P X.K vs t)) (hs : swapsWithSole [tg] e pos.line X.env = pure false := by rfl) (hw : swappedStores [tg] e X.env = pure none := by rfl)
    (h1 : (assignEach [tg] X.env).map (·.2) = [assign tg X.env] := by rfl) : PS X (.Assign [tg] e pos) (tS P X.K Wx (unpS t ca)) := PS_imp (ps_asg he hg hs hw h1) fun D σ H h => by
  obtain ⟨μ, s, I, h⟩ := h
  refine ⟨μ, s, I, (PstS.res h).mono fun r s1 μ1 H1 A h v rv fv => ?_⟩
  cases q : t r s1 with
  | none => rw [q] at h; exact h.elim
  | some s2 =>
    rw [q] at h
    exact ⟨μ, s, σ, H, μ1, s1, r, s2, A.toS, rv, fv, q, fun μ2 σ2 A2 _ => h μ2 σ2 H1 A2⟩
/-! ### o[i] = v -/
theorem put_of {K : PySem.W.Frag} {μ : List Addr} {s : S} {σ : L2.St} {H : Hp} {D : Ends} {F : V → V → V → Hp → Prop} (I : Sim P K μ s σ H) (h : PstS P K Wx μ s σ H (putS co ci ca s) D)
    (hF : ∀ r s1 ro s2 ri s3 x s4 s5, ca s = .ok r s1 → co s1 = .ok ro s2 → ci s2 = .ok ri s3 → boxR r s3 = some (x, s4) → putV ro ri x s4 = some s5 →
      ∀ μ3 H3 v vo vi, Aft P K μ s σ H μ3 s3 H3 → RepR P K μ3 s3 σ H3 r v → RepR P K μ3 s3 σ H3 ro vo → RepR P K μ3 s3 σ H3 ri vi → Frs H r v → (∀ μ' H', AftS P K μ s σ H μ' s5 σ H' → D.nx σ H') → F vo vi v H3) :
    tE P K Wx ca σ H fun v H1 => tE P K Wx co σ H1 fun x H2 => tE P K Wx ci σ H2 fun y H3 => F x y v H3 := by
  refine ⟨μ, s, I, ?_⟩
  have h1 := PstS.res h
  cases e1 : ca s with
  | bad => rw [e1] at h1; exact h1.elim
  | exc c xs s1 => rw [e1] at h1; exact h1
  | ok r s1 =>
    rw [e1] at h1
    intro μ1 H1 A v rv fv
    refine ⟨μ1, s1, A.sim, ?_⟩
    have h2 := (PstS.res (h1 μ1 H1 A)).from A
    cases e2 : co s1 with
    | bad => rw [e2] at h2; exact h2.elim
    | exc c xs s2 => rw [e2] at h2; exact h2
    | ok ro s2 =>
      rw [e2] at h2
      intro μ2 H2 B vo rvo fvo
      refine ⟨μ2, s2, B.sim, ?_⟩
      have AB := A.trans B
      have h3 := (PstS.res (h2 μ2 H2 B)).from AB
      cases e3 : ci s2 with
      | bad => rw [e3] at h3; exact h3.elim
      | exc c xs s3 => rw [e3] at h3; exact h3
      | ok ri s3 =>
        rw [e3] at h3
        intro μ3 H3 C vi rvi fvi
        have h4 : PstS P K Wx μ s σ H (match boxR r s3 with
          | some (x, s4) => ofOpt (putV ro ri x s4)
          | none => .bad) D := h3 μ3 H3 C
        cases e4 : boxR r s3 with
        | none => rw [e4] at h4; exact h4.elim
        | some y =>
          obtain ⟨x, s4⟩ := y
          rw [e4] at h4
          have h4 : PstS P K Wx μ s σ H (ofOpt (putV ro ri x s4)) D := h4
          cases e5 : putV ro ri x s4 with
          | none => rw [e5] at h4; exact h4.elim
          | some s5 =>
            rw [e5] at h4
            exact hF r s1 ro s2 ri s3 x s4 s5 e1 e2 e3 e4 e5 μ3 H3 v vo vi (AB.trans C) ((rv.aft A.sim B).aft B.sim C) (rvo.aft B.sim C) rvi fv fun μ' H' E => h4 μ' σ H' E
theorem putK_of {K : PySem.W.Frag} {μ : List Addr} {H : Hp} {k : D} {kk : Key} (hk : keyD k = some kk) (rk : RepD K H k (kV kk)) {w : W} {v : V} (rv : SimW K μ H w v) {kvs : List (D × W)} {ps : List (Key × V)} (h : SimK K μ H kvs ps) : SimK K μ H (dput kvs k w) (putK ps kk v) := by
  have ha : (ps.any fun kv => decide (kv.1 = kk)) = kvs.any fun q => decide (q.1 = k) := by
    induction h with
    | nil => rfl
    | @cons p q ps qs h t ih =>
      simp only [List.any_cons, ih]
      congr 1
      exact decide_eq_decide.mpr (keyD_inj h.1 hk)
  unfold dput putK
  rw [ha]
  by_cases hq : (kvs.any fun q => decide (q.1 = k)) = true
  · rw [if_pos hq, if_pos hq]
    clear ha hq
    induction h with
    | nil => exact .nil
    | @cons p q ps qs h t ih =>
      refine .cons ?_ ih
      by_cases e : p.1 = k
      · show keyD (if p.1 = k then (p.1, w) else p).1 = some (if q.1 = kk then (q.1, v) else q).1 ∧ SimW K μ H (if p.1 = k then (p.1, w) else p).2 (if q.1 = kk then (q.1, v) else q).2 ∧ RepD K H (if p.1 = k then (p.1, w) else p).1 (kV (if q.1 = kk then (q.1, v) else q).1)
        rw [if_pos e, if_pos ((keyD_inj h.1 hk).mpr e)]
        exact ⟨h.1, rv, h.2.2⟩
      · show keyD (if p.1 = k then (p.1, w) else p).1 = some (if q.1 = kk then (q.1, v) else q).1 ∧ SimW K μ H (if p.1 = k then (p.1, w) else p).2 (if q.1 = kk then (q.1, v) else q).2 ∧ RepD K H (if p.1 = k then (p.1, w) else p).1 (kV (if q.1 = kk then (q.1, v) else q).1)
        rw [if_neg e, if_neg fun z => e ((keyD_inj h.1 hk).mp z)]
        exact h
  · rw [if_neg hq, if_neg hq]
    clear ha hq
    induction h with
    | nil => exact .cons ⟨hk, rv, rk⟩ .nil
    | cons h t ih => exact .cons h ih
theorem c_put (hu : X.A.units + 1 < cLine) (ho : PE X o (tE P X.K Wx co)) (hi : PE X i (tE P X.K Wx ci)) (he : PE X e (tE P X.K Wx ca)) (hs : swapsWithSole [.Subscript o i pos'] e pos.line X.env = pure false := by rfl) (hw : swappedStores [.Subscript o i pos'] e X.env = pure none := by rfl)
    (h1 : (assignEach [.Subscript o i pos'] X.env).map (·.2) = [assign (.Subscript o i pos') X.env] := by rfl) (hs' : swapsWith e (some (.Subscript o i pos')) pos.line X.env = pure false := by rfl)
    (ha : ∀ v, assign (.Subscript o i pos') X.env v = (do
      let ov ← holding [v] (eval o X.env)
      let iv ← holding [v, ov] (eval i X.env)
      standAt pos'
      holding [v, ov, iv] (setItem ov iv v)
      release [v, ov, iv] []) := by intro _; rfl) : PS X (.Assign [.Subscript o i pos'] e pos) (tS P X.K Wx (putS co ci ca)) :=
  PS_imp (PS_or (ps_asg he (pg_sub ho hi set_list ha) hs hw h1) (ps_dput hu ho hi he hs')) fun D σ H h => by
  obtain ⟨μ, s, I, h⟩ := h
  by_cases hd : ∃ r s1 ro s2 ri s3 x s4 p z kvs, ca s = .ok r s1 ∧ co s1 = .ok ro s2 ∧ ci s2 = .ok ri s3 ∧ boxR r s3 = some (x, s4) ∧ locR s4 ro = some p ∧ getO s4 p = some (.dct z kvs)
  · right
    refine put_of I h fun r s1 ro s2 ri s3 x s4 s5 e1 e2 e3 e4 e5 μ3 H3 v vo vi A rv rvo rvi fv hq => ?_
    obtain ⟨r', s1', ro', s2', ri', s3', x', s4', p, z, kvs, d1, d2, d3, d4, d5, d6⟩ := hd
    cases e1.symm.trans d1
    cases e2.symm.trans d2
    cases e3.symm.trans d3
    cases e4.symm.trans d4
    obtain ⟨μ4, B, sw⟩ := A.sim.box rv e4
    have A4 := B.aft A fun a ha => by obtain ⟨⟨o, rfl⟩, rfl⟩ := ha; exact fv
    have nn : ∀ a, ¬ isNew ro vo a := fun a ⟨⟨o, z⟩, _⟩ => by subst z; exact nomatch (show (none : Option Src) = some p from d5)
    have rvo4 := rvo.bx B fun a ha => absurd ha (nn a)
    obtain ⟨a, rfl, ha, so⟩ := A4.sim.locAt rvo4 d5 d6
    unfold putV at e5
    simp only [d5] at e5
    split at e5 <;> first | (cases e5; done) | skip
    rename_i p' k hp'
    cases hp'
    simp only [d6] at e5
    cases z with
    | true => cases e5
    | false =>
      simp only at e5
      split at e5 <;> cases e5
      rename_i hk
      simp only [Bool.and_eq_true, decide_eq_true_eq] at hk
      obtain ⟨kk, ek⟩ := keyD_some hk.1
      obtain ⟨ps, e6, rs⟩ := so
      have rk : RepD X.K H3 k vi := by
        cases (show SimW X.K μ3 H3 (.d k) vi from rvi) with
        | d q => exact q
      have ev : vi = kV kk := keyD_kV rk ek
      subst ev
      have hl : kvs.length = ps.length := Paired.length rs
      refine ⟨a, _, rfl, .k e6 (by rw [← hl, ← LN_eq]; exact hk.2), ?_⟩
      refine hq μ4 _ (A4.trans (A4.sim.write d6 (fun _ z => nomatch z) ha ?_)).toS
      exact ⟨_, upd_same, (putK_of ek rk sw rs).mono (tups_upd A4.sim ha.foot) (List.prefix_refl _)⟩
  · left
    refine put_of I h fun r s1 ro s2 ri s3 x s4 s5 e1 e2 e3 e4 e5 μ3 H3 v vo vi A rv rvo rvi fv hq => ?_
    obtain ⟨μ4, B, sw⟩ := A.sim.box rv e4
    have A4 := B.aft A fun a ha => by obtain ⟨⟨o, rfl⟩, rfl⟩ := ha; exact fv
    unfold putV at e5
    split at e5 <;> first | (cases e5; done) | skip
    rename_i p k d5
    have nn : ∀ a, ¬ isNew ro vo a := fun a ⟨⟨o, z⟩, _⟩ => by subst z; exact nomatch (show (none : Option Src) = some p from d5)
    have rvo4 := rvo.bx B fun a ha => absurd ha (nn a)
    cases d6 : getO s4 p with
    | none => simp only [d6] at e5; cases e5
    | some ob =>
      cases ob with
      | dct z kvs => exact absurd ⟨r, s1, ro, s2, _, s3, x, s4, p, z, kvs, e1, e2, e3, e4, d5, d6⟩ hd
      | ins c fs => simp only [d6] at e5; cases e5
      | lst ws =>
        simp only [d6] at e5
        cases k with
        | non => cases e5
        | bl _ => cases e5
        | str _ => cases e5
        | tup _ => cases e5
        | int n =>
          obtain ⟨j, e7, e8⟩ := Option.map_eq_some_iff.mp e5
          subst e8
          cases rep_int rvi
          obtain ⟨a, rfl, ha, us, e6, rs⟩ := A4.sim.locAt rvo4 d5 d6
          refine ⟨a, us, n, j, rfl, rfl, e6, by rw [← SimWs_len rs, ← ixN_eq]; exact e7, ?_⟩
          exact hq μ4 _ (putList A4 d6 ha (rs.set sw j)).toS
/-! ### while -/
theorem PstS.turn {K : PySem.W.Frag} {μ : List Addr} {s : S} {σ : L2.St} {H : Hp} {k : S → Out} {x : Out} {D : Ends} (h : PstS P K Wx μ s σ H (turnO k x) D) :
    PstS P K Wx μ s σ H x { D with nx := fun σ' H' => ∃ μ' s', AftS P K μ s σ H μ' s' σ' H' ∧ PstS P K Wx μ s σ H (k s') D, ct := fun σ' H' => ∃ μ' s', AftS P K μ s σ H μ' s' σ' H' ∧ PstS P K Wx μ s σ H (k s') D, bk := D.nx } := by
  cases x with
  | nx s' => exact fun μ' σ' H' A => ⟨μ', s', A, h⟩
  | ct s' => exact fun μ' σ' H' A => ⟨μ', s', A, h⟩
  | bk s' => exact h
  | rt r s' => exact h
  | exc c xs s' => exact h
  | bad => exact h
theorem c_while {tc : Tm} {cb : Mn.St} {body : List PySem.Stmt} (hp : PassesOwn (model X.prog X.w) X.A X.env X.xe) (hc : PT X c (tT P X.K Wx tc)) (hb : PSs X body (tS P X.K Wx cb)) : PS X (.While c body [] pos) (tS P X.K Wx (whileS tc cb)) := PS_imp (ps_while hp hc hb) fun D σ H h => by
  obtain ⟨μ, s, I, h⟩ := h
  refine ⟨fun m σ' H' => ∃ μ' s', AftS P X.K μ s σ H μ' s' σ' H' ∧ PstS P X.K Wx μ s σ H (whileN tc cb m s') D, ⟨WN, μ, s, .refl I, h⟩, fun m σ' H' w => ?_⟩
  obtain ⟨μ', s', A, w⟩ := w
  cases m with
  | zero => exact w.elim
  | succ m =>
    refine ⟨μ', s', A.sim, ?_⟩
    have w := PstS.res' A w
    refine w.mono fun b s1 μ1 H1 B w => ?_
    cases b with
    | false => exact w μ1 σ' H1 (A.trans B.toS)
    | true =>
      rw [if_pos rfl]
      refine ⟨_, fun σ'' H'' n => ⟨m, Nat.lt_succ_self m, n⟩, μ1, s1, B.sim, ?_⟩
      exact PstS.from (A.trans B.toS) (PstS.turn w)
end
end Mn

end
section
set_option Elab.async false
set_option linter.all false
set_option maxRecDepth 100000
set_option maxHeartbeats 4000000
/-! MnEnum: enumerate of a tuple. -/
namespace PySem
open Sem (wp)
open AutoSeq1 (wpAny_loadPart')
theorem meets_enumerate_newT (l : Addr) (items : Array Value) (n : Nat) (dct : Option Addr) (sl : Array (Option Value)) :
    Meets (Builtin.«enumerate.__new__» ⟨[.type "enumerate", .ref l], []⟩) (fun _ R s => s.heap.get? l = some { cls := .type "tuple", dict := dct, data := .seq items n, slots := sl } ∧
      R (.ok (.ret (.ref (s.heap.push { cls := .type "tuple_iterator", data := .fields #[.ref l, .int 0 0] }).objs.size)))
        { s with heap := (s.heap.push { cls := .type "tuple_iterator", data := .fields #[.ref l, .int 0 0] }).push { cls := .type "enumerate", data := .fields #[.none, .bool false, .ref s.heap.objs.size, rawInt 0, .none, .none] } }) :=
  .of_wp fun prog w A R s h => by
    obtain ⟨hp, g, d, tk, os⟩ := s; obtain ⟨hl, h⟩ := h
    have hsub := sub_enumerate
    have hL : Heap.IsTuple (Shared.heap ⟨hp, g, d, tk, os⟩) l items := ⟨_, hl, rfl, n, rfl⟩
    wp_walk using wpAny_loadPart' hl
    refine wpAny_stack_any fun st => wpAny_pure ?_
    split
    · rename_i c _ _ _ _ _
      cases (c == Value.type "enumerate")
      · wp_walk using wpAny_loadPart' hl, wpAny_pyIter_tuple hL
        exact ⟨_, rfl, h⟩
      · wp_walk using wpAny_loadPart' hl, wpAny_pyIter_tuple hL
        exact ⟨_, rfl, h⟩
    · wp_walk using wpAny_loadPart' hl, wpAny_pyIter_tuple hL
      exact ⟨_, rfl, h⟩
section
variable {prog : Program} {w : World} {A : Around} {E : Value → Shared → Prop} {s : Shared}
theorem call_enumerate_tuple {l : Addr} {items : Array Value} {Q : Value → Shared → Prop} (hL : s.heap.IsTuple l items)
    (h : ∀ h', IsEnum h' (s.heap.objs.size + 1) s.heap.objs.size 0 .none → h'.IsTupleIter s.heap.objs.size l 0 → h'.objs.size = s.heap.objs.size + 2 →
      (∀ b o, s.heap.get? b = some o → h'.get? b = some o) → Q (.ref (s.heap.objs.size + 1)) { s with heap := h' }) :
    wpAny (model prog w) A (call (.type "enumerate") [.ref l]) Q E s := by
  obtain ⟨⟨c, dct, dt, sl⟩, hl, hc, n, hd⟩ := hL
  replace hc : c = .type "tuple" := hc
  replace hd : dt = .seq items n := hd
  subst hc hd
  refine callType_new F.called_enumerate (by decide) (F.typeCall_enumerate_1 _) (F.newCall_enumerate_1 _) (fun obj => F.args_object_init_2 obj _) F.entry_enumerate_new
    (meets_enumerate_newT l items n dct sl) ⟨hl, ?_⟩
  have hz : (s.heap.push { cls := .type "tuple_iterator", data := .fields #[.ref l, .int 0 0] }).objs.size = s.heap.objs.size + 1 := Heap.size_push ..
  show _ ∧ _
  rw [hz]
  have he : IsEnum ((s.heap.push { cls := .type "tuple_iterator", data := .fields #[.ref l, .int 0 0] }).push
      { cls := .type "enumerate", data := .fields #[.none, .bool false, .ref s.heap.objs.size, rawInt 0, .none, .none] }) (s.heap.objs.size + 1) s.heap.objs.size 0 .none := by
    have := Heap.get?_push_size (s.heap.push { cls := .type "tuple_iterator", data := .fields #[.ref l, .int 0 0] })
      (o := { cls := .type "enumerate", data := .fields #[.none, .bool false, .ref s.heap.objs.size, rawInt 0, .none, .none] }) rfl
    rw [hz] at this; exact this
  exact ⟨⟨_, he, rfl⟩, h _ he ⟨_, Heap.get?_push_of_some _ (Heap.get?_push_size _ rfl), rfl, rfl⟩ (by rw [Heap.size_push, hz]) fun b o x => Heap.get?_push_of_some _ (Heap.get?_push_of_some _ x)⟩
end
end PySem
namespace Mn
open PySem PySem.Spec PyProof.Rows L2
/-- the tuple at a, each item in a new pair -/
def IteT (K : PySem.W.Frag) (a : Addr) : L2.It :=
  ⟨fun i H => ∃ (xs : List V) (x : V), SqT K H a xs ∧ xs[i]? = some x, fun i H v H' => ∃ T x, v = .ref T ∧ H T = none ∧ H' = upd H T (.tup [.int (i : Nat), x]) ∧ ∀ xs, SqT K H a xs → xs[i]? = some x, fun i H => ∃ xs : List V, SqT K H a xs ∧ xs.length = i⟩
theorem turn_enumT {P : Program} {w : World} {K : PySem.W.Frag} {elts : List Expr} {kk : Nat} {tpos : Pos} (a e it : Addr) :
    Turn P w K (.Tuple elts kk tpos) (IteT K a) [e, it] e (fun i h => (∃ old, IsEnum h e it ((i : Nat) : Int) old) ∧ h.IsTupleIter it a i ∧ e ≠ it ∧ a ≠ it) where
  mem := by simp
  obj := fun i h st b hb => by
    obtain ⟨⟨old, he⟩, ⟨o, ho, hc, hd⟩, _⟩ := st
    have e' : b = e ∨ b = it := by simpa using hb
    rcases e' with z | z
    · rw [z]; exact ⟨_, he, fun v q => nomatch q⟩
    · rw [z]; exact ⟨o, ho, fun v q => by rw [hd] at q; cases q⟩
  keep := fun i h h' st k => let ⟨⟨old, he⟩, hi, hne⟩ := st; ⟨⟨old, k e (by simp) _ he⟩, hi.at fun o q => k it (by simp) o q, hne⟩
  item := by
    intro X hP hw hK hc i pins s σ H E I hf st hg
    subst hP hw hK
    obtain ⟨⟨old, he⟩, hit, hne, hat⟩ := st
    obtain ⟨xs, x, hq, hx⟩ := hg
    obtain ⟨its, rv, p, hz⟩ := I.tuple hq
    obtain ⟨u, hu, ru⟩ := rv.get hx
    have hel : e < s.heap.objs.size := Heap.lt_size he
    have hil : it < s.heap.objs.size := by obtain ⟨_, q, _⟩ := hit; exact Heap.lt_size q
    have hilt : i < its.length := (List.getElem?_eq_some_iff.mp hu).1
    have hea : e ≠ a := fun z => by
      subst z
      obtain ⟨o, q1, q2, _⟩ := p
      have he' : s.heap.get? e = some { cls := .type "enumerate", data := _ } := he
      rw [he'] at q1
      cases q1
      have q2 : Value.type "enumerate" = Value.type "tuple" := q2
      injection q2 with z
      exact absurd z (by decide)
    refine wpAny_pyNext_enum_itemD (i := i) (Draws.tuple (prog := X.prog) (w := X.w) (A := X.A.in1) (I.ok.hd hc) it a hat its.toArray) he ⟨hit, p⟩ (by simpa using hilt) hne (by simp [hne, hea]) fun x' h' tk hx' ho st' hT hsz hk => ?_
    have hxu : x' = u := by
      have h1 : its[i]? = some x' := by simpa using hx'
      rw [hu] at h1
      exact (Option.some.inj h1).symm
    subst hxu
    refine ⟨_, rfl, wpAny_letOwnedTupleGo_enum (s := { s with heap := h', toks := tk + 1 }) ho fun h'' he' sb => ?_⟩
    have hT2 : h''.get? s.heap.objs.size = some { cls := .type "tuple", data := .seq #[.int i tk, x'] } := (sb.2 _ (Nat.ne_of_gt hel)).trans hT
    have new : ObjOk X.prog X.w (upd H s.heap.objs.size (.tup [.int (i : Nat), x])) h'' s.heap.objs.size (.tup [.int (i : Nat), x]) :=
      ⟨by show 2 ≤ sizeLine; decide, [.int i tk, x'], .cons ⟨_, rfl⟩ (.cons ru .nil), ⟨_, hT2, rfl, _, rfl⟩⟩
    have I1 : Inv X pins σ (upd H s.heap.objs.size (.tup [.int (i : Nat), x])) { s with heap := h'', toks := tk + 1 } :=
      I.turnedNew (ch := [e, it]) (fun b ob hb q => (sb.2 b (fun z => hb (by simp [z]))).trans (hk b ob (fun z => hb (by simp [z])) (fun z => hb (by simp [z])) q)) hf (Nat.le_refl _) new
    refine ⟨.ref s.heap.objs.size, _, I1, rfl, ⟨_, x, rfl, I.hok.fresh (Nat.le_refl _), rfl, fun ys hy => by rw [I.tuple_inj hy hq]; exact hx⟩, ⟨⟨x', ?_⟩, st'.1.at fun o q => (sb.2 it (Ne.symm hne)).trans q, hne, hat⟩, fun b hb => ?_⟩
    · have e1 : ((i + 1 : Nat) : Int) = (i : Int) + 1 := by omega
      rw [e1]; exact he'
    · have hb' : b < s.heap.objs.size := by
        have e' : b = e ∨ b = it := by simpa using hb
        rcases e' with z | z
        · rw [z]; exact hel
        · rw [z]; exact hil
      rw [upd_ne (Nat.ne_of_lt hb')]
      exact (hf b hb).1
  done := by
    intro X hP hw hK hc i pins s σ H E I hf st hg
    subst hP hw hK
    obtain ⟨⟨old, he⟩, hit, hne, hat⟩ := st
    obtain ⟨xs, hq, hx⟩ := hg
    obtain ⟨its, rv, p, hz⟩ := I.tuple hq
    obtain ⟨f0, f1, f2, f3, f4, f5⟩ := hf it (by simp)
    have hl : its.toArray.size = i := by rw [← hx, rv.length]; simp
    subst hl
    exact wpAny_pyNext_enum_endD (Draws.tuple (prog := X.prog) (w := X.w) (A := X.A.in1) (I.ok.hd hc) it a hat its.toArray) he ⟨hit, p⟩ fun h' eb => ⟨rfl, I.turned (t' := s.toks) (fun b o hb q => eb b o hb q) f0 f1 f3 f4 f5⟩
  self := fun A i s Q E st h => let ⟨⟨_, he⟩, _⟩ := st; wpAny_pyIter_enum he h
def iEnumT (K : PySem.W.Frag) (ta : TA) : TI := fun σ H R => ta σ H fun vs H1 => ∃ a xs, vs = [.ref a] ∧ SqT K H1 a xs ∧ R (IteT K a) H1
theorem pi_enumT {X : Cx} {e : Expr} {ta : TA} {p pos tpos : Pos} {elts : List Expr} {kk : Nat} (hg : Gl X "enumerate") (hm : X.mg "enumerate" = none) (ha : PA X [e] ta) (hs : starEach [e] X.env = [(false, eval e X.env)] := by rfl) :
    PI X (.Tuple elts kk tpos) (.Call (.Name "enumerate" p) [e] [] pos) (iEnumT X.K ta) := by
  refine ⟨fun pins s σ H R I h => ?_⟩
  refine Call_ (ld_blt I hg hm boot_enumerate (PyProof.Rows.callWith_type1 (thn (ha.run pos pins s σ H _ I h) fun us s1 ⟨vs, H1, I1, r1, q1⟩ => ?_) hs rfl))
  obtain ⟨a, xs, ex, hq, q⟩ := q1
  subst ex
  cases r1 with
  | cons r rr =>
    cases rr
    cases r
    obtain ⟨its, rv, p', hz⟩ := I1.tuple hq
    have hat : a ≠ s1.heap.objs.size := by
      obtain ⟨o, q1, _⟩ := p'
      exact Nat.ne_of_lt (Heap.lt_size q1)
    refine call_enumerate_tuple p' fun h' he hit hsz hk => wpAny_pyIter_enum he ?_
    have I2 : Inv X pins σ H1 { s1 with heap := h' } := I1.kept (t' := s1.toks) hk
    refine ⟨s1.heap.objs.size + 1, [s1.heap.objs.size + 1, s1.heap.objs.size], _, _, H1, rfl, I2, turn_enumT a (s1.heap.objs.size + 1) s1.heap.objs.size, ⟨⟨.none, he⟩, hit, Nat.succ_ne_self _, hat⟩, fun b hb => ?_, q⟩
    have e' : b = s1.heap.objs.size + 1 ∨ b = s1.heap.objs.size := by simpa using hb
    have hle : s1.heap.objs.size ≤ b := by
      rcases e' with z | z
      · rw [z]; exact Nat.le_add_right _ _
      · rw [z]; exact Nat.le_refl _
    exact I1.fpOk hle (I1.hok.fresh hle)
end Mn

end
section
set_option Elab.async false
set_option linter.all false
set_option maxRecDepth 100000
set_option maxHeartbeats 4000000
/-! MnRule7: for, over lists, tuples, texts, ranges, enumerate. -/
namespace Mn
open PySem PySem.Spec PyProof.Rows L2
def Frz (H H' : Hp) : Prop := ∀ a o u, H a = some (.frz o u) → H' a = some (.frz o u)
/-- an iterator of the layer walks what It tells -/
structure Good (P : Pr) (K : PySem.W.Frag) (μ₀ : List Addr) (H₀ : Hp) (J : L2.It) (it : Mn.It) : Prop where
  go : ∀ μ s σ H i w, μ₀ <+: μ → Tups K H₀ H → Frz H₀ H → Sim P K μ s σ H → kept s it.keep = true → it.items[i]? = some w → J.go i H ∧ ∀ x H', J.yld i H x H' → Aft P K μ s σ H μ s H' ∧ SimW K μ H' w x
  stop : ∀ μ s σ H, μ₀ <+: μ → Tups K H₀ H → Frz H₀ H → Sim P K μ s σ H → kept s it.keep = true → J.stop it.items.length H
def tI (P : Pr) (K : PySem.W.Frag) (Wx : WX) (c : S → Res Mn.It) : TI := fun σ H R => ∃ μ s, Sim P K μ s σ H ∧ Pst P K Wx μ s σ H (c s) fun i s' μ' H' => ∀ J, Good P K μ' H' J i → R J H'
theorem PI_imp {X : Cx} {tg e : PySem.Expr} {t t' : TI} (h : PI X tg e t) (i : ∀ σ H R, t' σ H R → t σ H R) : PI X tg e t' := ⟨fun pins s σ H R I q => h.run pins s σ H R I (i σ H R q)⟩
theorem PI_or {X : Cx} {tg e : PySem.Expr} {t t' : TI} (h : PI X tg e t) (h' : PI X tg e t') : PI X tg e fun σ H R => t σ H R ∨ t' σ H R := ⟨fun pins s σ H R I q => q.elim (h.run pins s σ H R I) (h'.run pins s σ H R I)⟩
section
variable {P : Pr} {K : PySem.W.Frag} {μ μ₀ : List Addr} {s : S} {σ : L2.St} {H H₀ : Hp}
/-- the list at a heap's place -/
theorem keptList {a : Addr} {j : Nat} {ws : List W} (hμ : μ₀[j]? = some a) (pre : μ₀ <+: μ) (I : Sim P K μ s σ H) (k : kept s (some (j, .lst ws)) = true) : ∃ vs, H a = some (.lst vs) ∧ SimWs K μ H ws vs := by
  have k : s.h[j]? = some (.lst ws) := by simpa [kept] using k
  obtain ⟨b, hb, vs, e, rs⟩ := paired_get I.heap k
  rw [pre_get pre hμ] at hb
  cases hb
  exact ⟨vs, e, rs⟩
theorem good_list {a : Addr} {j : Nat} {ws : List W} (hμ : μ₀[j]? = some a) : Good P K μ₀ H₀ (Itl K a) ⟨ws, some (j, .lst ws)⟩ where
  go := fun μ s σ H i w pre _ _ I k hw => by
    obtain ⟨vs, e, rs⟩ := keptList hμ pre I k
    obtain ⟨v, hv, rv⟩ := SimWs_get rs hw
    refine ⟨⟨vs, v, .inl (.inl e), hv⟩, fun x H' y => ?_⟩
    obtain ⟨e1, y⟩ := y
    subst e1
    have := y vs (.inl (.inl e))
    rw [hv] at this
    cases this
    exact ⟨.refl I, rv⟩
  stop := fun μ s σ H pre _ _ I k => by
    obtain ⟨vs, e, rs⟩ := keptList hμ pre I k
    exact ⟨vs, .inl (.inl e), by rw [← SimWs_len rs]; exact Nat.le_refl _⟩
theorem good_tup {a : Addr} {vs : List V} {ws : List W} (ha : SqT K H₀ a vs) (rs : SimWs K μ₀ H₀ ws vs) : Good P K μ₀ H₀ (Itt K a) ⟨ws, none⟩ where
  go := fun μ s σ H i w pre t _ I k hw => by
    obtain ⟨v, hv, rv⟩ := SimWs_get (rs.mono t pre) hw
    refine ⟨⟨vs, v, t.tup _ _ ha, hv⟩, fun x H' y => ?_⟩
    obtain ⟨e1, y⟩ := y
    subst e1
    have := y vs (t.tup _ _ ha)
    rw [hv] at this
    cases this
    exact ⟨.refl I, rv⟩
  stop := fun μ s σ H pre t _ I k => ⟨vs, t.tup _ _ ha, by rw [← SimWs_len rs]; exact Nat.le_refl _⟩
theorem good_scr {a : Addr} {ns : List Int} (ha : FzL K H₀ a (ns.map V.int)) : Good P K μ₀ H₀ (Itl K a) ⟨ns.map fun i => .d (.int i), none⟩ where
  go := fun μ s σ H i w pre t _ I k hw => by
    have hw : (ns.map fun i => W.d (.int i))[i]? = some w := hw
    rw [List.getElem?_map] at hw
    obtain ⟨n, e1, rfl⟩ := Option.map_eq_some_iff.mp hw
    have hv : (ns.map V.int)[i]? = some (V.int n) := by rw [List.getElem?_map, e1]; rfl
    refine ⟨⟨_, _, (t.fz _ _ ha).sq, hv⟩, fun x H' y => ?_⟩
    obtain ⟨e1, y⟩ := y
    subst e1
    have := y _ (t.fz _ _ ha).sq
    rw [hv] at this
    cases this
    exact ⟨.refl I, .d (.int n)⟩
  stop := fun μ s σ H pre t _ I k => ⟨_, (t.fz _ _ ha).sq, by show (ns.map V.int).length ≤ (ns.map _).length; simp⟩
theorem good_rng {lo : Int} {n : Nat} : Good P K μ₀ H₀ (Itr lo n) ⟨uptoN lo n, none⟩ where
  go := fun μ s σ H i w pre t _ I k hw => by
    have hw : (uptoN lo n)[i]? = some w := hw
    unfold uptoN at hw
    rw [List.getElem?_map] at hw
    obtain ⟨j, e1, e2⟩ := Option.map_eq_some_iff.mp hw
    obtain ⟨hi, e3⟩ := List.getElem?_eq_some_iff.mp e1
    have hi' : i < n := by simpa using hi
    simp at e3
    subst e3
    refine ⟨hi', fun x H' y => ?_⟩
    obtain ⟨e1, y⟩ := y
    subst e1 y e2
    exact ⟨.refl I, .d (.int _)⟩
  stop := fun μ s σ H pre t _ I k => by show n ≤ (uptoN lo n).length; simp [uptoN]
theorem good_str {a : List Nat} (ha : ∀ c ∈ a, c < 0x110000) : Good P K μ₀ H₀ (Its (sig a)) ⟨a.map fun c => .d (.str [c]), none⟩ where
  go := fun μ s σ H i w pre t _ I k hw => by
    have hw : (a.map fun c => W.d (.str [c]))[i]? = some w := hw
    rw [List.getElem?_map] at hw
    obtain ⟨c, e1, e2⟩ := Option.map_eq_some_iff.mp hw
    subst e2
    refine ⟨?_, fun x H' y => ?_⟩
    · show i < a.toArray.size
      simpa using (List.getElem?_eq_some_iff.mp e1).1
    · obtain ⟨e, c', e3, e4⟩ := y
      subst e e4
      have e3 : a[i]? = some c' := by simpa using e3
      rw [e1] at e3
      cases e3
      exact ⟨.refl I, .d (.str [c] fun d hd => by simp only [List.mem_singleton] at hd; subst hd; exact ha _ (List.mem_of_getElem? e1))⟩
  stop := fun μ s σ H pre t _ I k => by
    show a.toArray.size ≤ (a.map _).length
    simp
theorem enumL_len : ∀ (ws : List W) (k : Nat), (enumL k ws).length = ws.length
  | [], _ => rfl
  | _ :: ws, k => by simp [enumL, enumL_len ws]
theorem enumL_get : ∀ (ws : List W) (k i : Nat), (enumL k ws)[i]? = (ws[i]?).map fun w => mkTup [.d (.int ((k + i : Nat) : Int)), w]
  | [], _, _ => by simp [enumL]
  | w :: ws, k, 0 => by simp [enumL]
  | w :: ws, k, i + 1 => by
    simp only [enumL, List.getElem?_cons_succ]
    rw [enumL_get ws (k + 1) i]
    have : k + 1 + i = k + (i + 1) := by omega
    rw [this]
theorem pairNew {T : Addr} {x : V} {i : Nat} {w : W} (I : Sim P K μ s σ H) (hT : H T = none) (r : SimW K μ H w x) : Aft P K μ s σ H μ s (upd H T (.tup [.int (i : Nat), x])) ∧ SimW K μ (upd H T (.tup [.int (i : Nat), x])) (mkTup [.d (.int (i : Nat)), w]) (.ref T) :=
  newTup I (.cons (.d (.int _)) (.cons r .nil)) hT
theorem good_enumL {a : Addr} {j : Nat} {ws : List W} (hμ : μ₀[j]? = some a) : Good P K μ₀ H₀ (Ite K a) ⟨enumL 0 ws, some (j, .lst ws)⟩ where
  go := fun μ s σ H i w pre _ _ I k hw => by
    obtain ⟨vs, e, rs⟩ := keptList hμ pre I k
    have hw : (enumL 0 ws)[i]? = some w := hw
    rw [enumL_get] at hw
    obtain ⟨w', e1, e2⟩ := Option.map_eq_some_iff.mp hw
    obtain ⟨v, hv, rv⟩ := SimWs_get rs e1
    refine ⟨⟨vs, v, .inl (.inl e), hv⟩, fun x H' y => ?_⟩
    obtain ⟨T, x', rfl, hT, rfl, y⟩ := y
    have := y vs (.inl (.inl e))
    rw [hv] at this
    cases this
    subst e2
    rw [Nat.zero_add]
    exact pairNew I hT rv
  stop := fun μ s σ H pre _ _ I k => by
    obtain ⟨vs, e, rs⟩ := keptList hμ pre I k
    exact ⟨vs, .inl (.inl e), by show vs.length ≤ (enumL 0 ws).length; rw [enumL_len, SimWs_len rs]; exact Nat.le_refl _⟩
theorem good_enumT {a : Addr} {vs : List V} {ws : List W} (ha : SqT K H₀ a vs) (rs : SimWs K μ₀ H₀ ws vs) : Good P K μ₀ H₀ (IteT K a) ⟨enumL 0 ws, none⟩ where
  go := fun μ s σ H i w pre t _ I k hw => by
    have hw : (enumL 0 ws)[i]? = some w := hw
    rw [enumL_get] at hw
    obtain ⟨w', e1, e2⟩ := Option.map_eq_some_iff.mp hw
    obtain ⟨v, hv, rv⟩ := SimWs_get (rs.mono t pre) e1
    refine ⟨⟨vs, v, t.tup _ _ ha, hv⟩, fun x H' y => ?_⟩
    obtain ⟨T, x', rfl, hT, rfl, y⟩ := y
    have := y vs (t.tup _ _ ha)
    rw [hv] at this
    cases this
    subst e2
    rw [Nat.zero_add]
    exact pairNew I hT rv
  stop := fun μ s σ H pre t _ I k => ⟨vs, t.tup _ _ ha, by show vs.length = (enumL 0 ws).length; rw [enumL_len, SimWs_len rs]⟩
end
section
variable {X : Cx} {P : Pr} {Wx : WX} {pos pos' p p2 tpos : Pos} {a b c e o i tg : PySem.Expr} {ca cb cc co : Ex} {vs : List Nat} {t : Tg} {es elts : List PySem.Expr} {kk : Nat}
/-- what itR gives -/
theorem itR_list {K : PySem.W.Frag} {μ : List Addr} {s : S} {σ : L2.St} {H : Hp} {μ₁ : List Addr} {s₁ : S} {H₁ : Hp} {r : R} {v : V} {ws : List W} {it : Mn.It} {s2 : S} (A : Aft P K μ₁ s₁ σ H₁ μ s H) (h : RepR P K μ s σ H r v) (f : Frs H₁ r v) (q : seqR s r = some (true, ws)) (e : itR r s = .ok it s2) :
    ∃ a j μ2 vs, v = .ref a ∧ it = ⟨ws, some (j, .lst ws)⟩ ∧ μ2[j]? = some a ∧ H a = some (.lst vs) ∧ Aft P K μ₁ s₁ σ H₁ μ2 s2 H := by
  obtain ⟨a, vs, rfl, rs, ha⟩ := A.sim.seq h q
  unfold itR at e
  simp only [q] at e
  split at e <;> first | (cases e; done) | skip
  rename_i j s3 q2
  cases e
  obtain ⟨μ2, B, sw⟩ := A.sim.box h q2
  refine ⟨a, j, μ2, vs, rfl, rfl, ?_, ha, B.aft A fun b hb => ?_⟩
  · cases sw; assumption
  · obtain ⟨⟨o, rfl⟩, e3⟩ := hb
    cases e3
    exact f
theorem i_seq (he : PE X e (tE P X.K Wx ca)) : PI X tg e (tI P X.K Wx (itE ca)) := PI_imp (PI_or (pi_list he) (PI_or (pi_tup he) (pi_str he))) fun σ H R h => by
  obtain ⟨μ, s, I, h⟩ := h
  have h := Pst.bind h
  cases q : ca s with
  | bad => rw [q] at h; exact h.elim
  | exc c xs s1 =>
    rw [q] at h
    exact .inl ⟨μ, s, I, by rw [q]; exact h⟩
  | ok r s1 =>
    rw [q] at h
    have h : ∀ μ' H', Aft P X.K μ s σ H μ' s1 H' → Pst P X.K Wx μ s σ H (itR r s1) fun i s' μ' H' => ∀ J, Good P X.K μ' H' J i → R J H' := h
    cases q2 : seqR s1 r with
    | some p =>
      obtain ⟨k, ws⟩ := p
      cases k with
      | true =>
        refine .inl ⟨μ, s, I, ?_⟩
        rw [q]
        intro μ1 H1 A v rv fv
        have h := h μ1 H1 A
        cases q3 : itR r s1 with
        | bad => rw [q3] at h; exact h.elim
        | exc c xs s2 =>
          unfold itR at q3
          simp only [q2] at q3
          split at q3 <;> cases q3
        | ok it s2 =>
          rw [q3] at h
          obtain ⟨a, j, μ2, vs, rfl, rfl, hμ, ha, A2⟩ := itR_list A rv fv q2 q3
          exact ⟨a, rfl, ⟨vs, .inl (.inl ha)⟩, h μ2 H1 A2 _ (good_list hμ)⟩
      | false =>
        refine .inr (.inl ⟨μ, s, I, ?_⟩)
        rw [q]
        intro μ1 H1 A v rv fv
        have h := h μ1 H1 A
        have e : itR r s1 = .ok ⟨ws, none⟩ s1 := by unfold itR; simp only [q2]
        rw [e] at h
        obtain ⟨a, vs, rfl, rs, ha⟩ := A.sim.seq rv q2
        exact ⟨a, rfl, ⟨vs, ha⟩, h μ1 H1 A _ (good_tup ha rs)⟩
    | none =>
      by_cases hs : ∃ ns, r = .w (.scr ns)
      · obtain ⟨ns, rfl⟩ := hs
        refine .inl ⟨μ, s, I, ?_⟩
        rw [q]
        intro μ1 H1 A v rv fv
        have h := h μ1 H1 A
        unfold itR at h
        simp only [q2] at h
        cases (show SimW X.K μ1 H1 (.scr ns) v from rv) with
        | @scr a _ fz => exact ⟨a, rfl, ⟨_, fz.sq⟩, h μ1 H1 A _ (good_scr fz)⟩
      refine .inr (.inr ⟨μ, s, I, ?_⟩)
      rw [q]
      intro μ1 H1 A v rv fv
      have hh := h μ1 H1 A
      clear h
      unfold itR at hh
      simp only [q2] at hh
      cases r with
      | new o => exact hh.elim
      | slot i => exact hh.elim
      | w y =>
        cases y with
        | ref _ => exact hh.elim
        | tup _ => exact hh.elim
        | scr ns => exact absurd ⟨ns, rfl⟩ hs
        | d y =>
          cases y <;> first | exact hh.elim | skip
          rename_i l
          simp only at hh
          by_cases hl : l.length ≤ LN
          · rw [if_pos hl] at hh
            obtain ⟨e1, ok⟩ := rep_str rv
            exact ⟨sig l, e1, hh μ1 H1 A _ (good_str ok)⟩
          · rw [if_neg hl] at hh
            exact hh.elim
theorem i_rng1 (hg : Gl X "range") (hm : X.mg "range" = none) (ha : PE X a (tE P X.K Wx ca)) (he : starEach [a] X.env = (false, eval a X.env) :: starEach [] X.env := by rfl) (hs : starEach [a] X.env = [(false, eval a X.env)] := by rfl) :
    PI X tg (.Call (.Name "range" p) [a] [] pos) (tI P X.K Wx (itR1 ca)) := PI_imp (pi_range1 hg hm (pa_cons ha pa_nil he) hs) fun σ H R h => by
  obtain ⟨μ, s, I, h⟩ := h
  refine ⟨μ, s, I, (Pst.bind h).mono fun r s1 μ1 H1 A h v rv fv => ?_⟩
  split at h <;> first | exact h.elim | skip
  rename_i n
  by_cases hn : small n = true
  · rw [if_pos hn] at h
    simp only [small, Bool.and_eq_true, decide_eq_true_eq] at hn
    cases rep_int rv
    exact ⟨n, rfl, hn.1, hn.2, h μ1 H1 A _ good_rng⟩
  · rw [if_neg hn] at h; exact h.elim
theorem i_rng2 (hg : Gl X "range") (hm : X.mg "range" = none) (ha : PE X a (tE P X.K Wx ca)) (hb : PE X b (tE P X.K Wx cb)) (he : starEach [a, b] X.env = (false, eval a X.env) :: starEach [b] X.env := by rfl) (he2 : starEach [b] X.env = (false, eval b X.env) :: starEach [] X.env := by rfl)
    (hs : starEach [a, b] X.env = [(false, eval a X.env), (false, eval b X.env)] := by rfl) (hs2 : starEach [b] X.env = [(false, eval b X.env)] := by rfl) :
    PI X tg (.Call (.Name "range" p) [a, b] [] pos) (tI P X.K Wx (itR2 ca cb)) := PI_imp (pi_range2 hg hm (pa_cons ha (pa_cons hb pa_nil he2) he) hs hs2) fun σ H R h => by
  obtain ⟨μ, s, I, h⟩ := h
  refine ⟨μ, s, I, (Pst.bind h).mono fun r s1 μ1 H1 A h v rv fv => ?_⟩
  refine ⟨μ1, s1, A.sim, ((Pst.bind h).from A).mono fun q s2 μ2 H2 B h u ru fu => ?_⟩
  have hr : ∃ m n, r = iR m ∧ q = iR n := by
    split at h <;> first | exact h.elim | exact ⟨_, _, rfl, rfl⟩
  obtain ⟨m, n, rfl, rfl⟩ := hr
  have h : Pst P X.K Wx μ s σ H (if small m && small n then Res.ok (Mn.It.mk (uptoN m (n - m).toNat) none) s2 else .bad) fun i s' μ' H' => ∀ (J : L2.It), Good P X.K μ' H' J i → R J H' := h
  by_cases hn : (small m && small n) = true
  · rw [if_pos hn] at h
    simp only [small, Bool.and_eq_true, decide_eq_true_eq] at hn
    cases rep_int rv
    cases rep_int ru
    exact ⟨m, n, rfl, ⟨hn.1.1, hn.1.2, hn.2.1, hn.2.2⟩, h μ2 H2 (A.trans B) _ good_rng⟩
  · rw [if_neg hn] at h; exact h.elim
theorem i_enum (hg : Gl X "enumerate") (hm : X.mg "enumerate" = none) (ha : PE X a (tE P X.K Wx ca)) (he : starEach [a] X.env = (false, eval a X.env) :: starEach [] X.env := by rfl) (hs : starEach [a] X.env = [(false, eval a X.env)] := by rfl) :
    PI X (.Tuple elts kk tpos) (.Call (.Name "enumerate" p) [a] [] pos) (tI P X.K Wx (itEnum ca)) := PI_imp (PI_or (pi_enum hg hm (pa_cons ha pa_nil he) hs) (pi_enumT hg hm (pa_cons ha pa_nil he) hs)) fun σ H R h => by
  obtain ⟨μ, s, I, h⟩ := h
  have h := Pst.bind h
  cases q : ca s with
  | bad => rw [q] at h; exact h.elim
  | exc c xs s1 =>
    rw [q] at h
    exact .inl ⟨μ, s, I, by rw [q]; exact h⟩
  | ok r s1 =>
    rw [q] at h
    have h : ∀ μ' H', Aft P X.K μ s σ H μ' s1 H' → Pst P X.K Wx μ s σ H (match seqR s1 r with
      | some _ => (itR r s1).bind fun i s2 => .ok ⟨enumL 0 i.items, i.keep⟩ s2
      | none => .bad) fun i s' μ' H' => ∀ J, Good P X.K μ' H' J i → R J H' := h
    cases q2 : seqR s1 r with
    | some p =>
      rw [q2] at h
      obtain ⟨k, ws⟩ := p
      cases k with
      | true =>
        refine .inl ⟨μ, s, I, ?_⟩
        rw [q]
        intro μ1 H1 A v rv fv
        have h := h μ1 H1 A
        cases q3 : itR r s1 with
        | bad => rw [q3] at h; exact h.elim
        | exc c xs s2 =>
          unfold itR at q3
          simp only [q2] at q3
          split at q3 <;> cases q3
        | ok it s2 =>
          rw [q3] at h
          obtain ⟨a, j, μ2, vs, rfl, rfl, hμ, ha, A2⟩ := itR_list A rv fv q2 q3
          exact ⟨a, vs, rfl, .inl (.inl ha), h μ2 H1 A2 _ (good_enumL hμ)⟩
      | false =>
        refine .inr ⟨μ, s, I, ?_⟩
        rw [q]
        intro μ1 H1 A v rv fv
        have h := h μ1 H1 A
        have e : itR r s1 = .ok ⟨ws, none⟩ s1 := by unfold itR; simp only [q2]
        rw [e] at h
        obtain ⟨a, vs, rfl, rs, ha⟩ := A.sim.seq rv q2
        exact ⟨a, vs, rfl, ha, h μ1 H1 A _ (good_enumT ha rs)⟩
    | none =>
      rw [q2] at h
      refine .inl ⟨μ, s, I, ?_⟩
      rw [q]
      exact fun μ1 H1 A => (h μ1 H1 A).elim
/-! ### for -/
theorem for_of {K : PySem.W.Frag} {cb : Mn.St} {μ : List Addr} {s : S} {σ : L2.St} {H : Hp} {D : Ends} {it : Mn.It} {J : L2.It} (G : Good P K μ H J it) (I : Sim P K μ s σ H) (h : PstS P K Wx μ s σ H (forL it.keep t cb it.items s) D) :
    ∃ W : Nat → Nat → L2.St → Hp → Prop, (∃ m, W 0 m σ H) ∧ ∀ i m σ H, W i m σ H →
      (J.stop i H ∧ D.nx σ H) ∨ (J.go i H ∧ ∃ N : L2.St → Hp → Prop, (∀ σ' H', N σ' H' → ∃ m', m' < m ∧ W (i + 1) m' σ' H') ∧ ∀ x H', J.yld i H x H' → tG P K vs t x σ H' fun σ2 H2 => tS P K Wx cb { D with nx := N, ct := N, bk := D.nx } σ2 H2) := by
  refine ⟨fun i m σ' H' => m = it.items.length - i ∧ i ≤ it.items.length ∧ ∃ μ' s', AftS P K μ s σ H μ' s' σ' H' ∧ PstS P K Wx μ s σ H (forL it.keep t cb (it.items.drop i) s') D, ⟨it.items.length, by simp, Nat.zero_le _, μ, s, .refl I, h⟩, ?_⟩
  rintro i m σ' H' ⟨rfl, hi, μ', s', A, h⟩
  have tt : Tups K H H' := I.tups A.step
  by_cases hlt : i < it.items.length
  · right
    have hx : it.items[i]? = some it.items[i] := List.getElem?_eq_getElem hlt
    rw [List.drop_eq_getElem_cons hlt] at h
    have h : PstS P K Wx μ s σ H (if kept s' it.keep then (match t (.w it.items[i]) s' with
      | some s1 => turnO (forL it.keep t cb (it.items.drop (i + 1))) (cb s1)
      | none => .bad) else .bad) D := h
    by_cases hk : kept s' it.keep = true
    · rw [if_pos hk] at h
      obtain ⟨g1, g2⟩ := G.go μ' s' σ' H' i _ A.pre tt A.step.frz A.sim hk hx
      refine ⟨g1, fun σ'' H'' => ∃ μ'' s'', AftS P K μ s σ H μ'' s'' σ'' H'' ∧ PstS P K Wx μ s σ H (forL it.keep t cb (it.items.drop (i + 1)) s'') D, fun σ'' H'' n => ?_, fun x H'' y => ?_⟩
      · obtain ⟨μ'', s'', B, n⟩ := n
        exact ⟨it.items.length - (i + 1), by omega, rfl, hlt, μ'', s'', B, n⟩
      · obtain ⟨B, rx⟩ := g2 x H'' y
        cases q : t (.w it.items[i]) s' with
        | none => rw [q] at h; exact h.elim
        | some s2 =>
          rw [q] at h
          have AB := A.trans B.toS
          refine ⟨_, _, _, _, μ', s', .w it.items[i], s2, AB, rx, trivial, q, fun μ2 σ2 C _ => ⟨μ2, s2, C.sim, ?_⟩⟩
          exact PstS.from C (PstS.turn h)
    · rw [if_neg hk] at h; exact h.elim
  · left
    have e : i = it.items.length := by omega
    subst e
    rw [List.drop_length] at h
    have h : PstS P K Wx μ s σ H (if kept s' it.keep then .nx s' else .bad) D := h
    by_cases hk : kept s' it.keep = true
    · rw [if_pos hk] at h
      exact ⟨G.stop μ' s' σ' H' A.pre tt A.step.frz A.sim hk, h μ' σ' H' A⟩
    · rw [if_neg hk] at h; exact h.elim
theorem c_for {ci : S → Res Mn.It} {cb : Mn.St} {body : List PySem.Stmt} (hp : PassesOwn (model X.prog X.w) X.A X.env X.xe) (hc : X.calm = true) (hi : PI X tg e (tI P X.K Wx ci)) (hg : PG X tg (tG P X.K vs t)) (hb : PSs X body (tS P X.K Wx cb))
    (hs : ∀ x, foldedSetIterable e X.env x = pure x := by intro _; rfl) : PS X (.For tg e body [] pos) (tS P X.K Wx (forS ci t cb)) := PS_imp (ps_for hp hc hi hg hb hs) fun D σ H h => by
  obtain ⟨μ, s, I, h⟩ := h
  refine ⟨μ, s, I, (PstS.res h).mono fun i s1 μ1 H1 A h J G => ?_⟩
  exact for_of G A.sim (PstS.from A.toS h)
end
end Mn

end
section
set_option Elab.async false
set_option linter.all false
set_option maxRecDepth 100000
set_option maxHeartbeats 4000000
/-! MnRule8: for over a dict, comprehensions. -/
namespace Mn
open PySem PySem.Spec PyProof.Rows L2
section
variable {P : Pr} {K : PySem.W.Frag} {μ μ' μ₀ : List Addr} {s s' : S} {σ σ' : L2.St} {H H' H₀ : Hp}
/-! ### the dict that a slot holds -/
theorem pull_ok {i j : Nat} {s1 : S} (I : Sim P K μ s σ H) (e : pullS i s = some (j, s1)) : ∃ μ1 a, σ[i]? = some (some (V.ref a)) ∧ μ1[j]? = some a ∧ Aft P K μ s σ H μ1 s1 H := by
  unfold pullS at e
  split at e <;> first | (cases e; done) | skip
  · rename_i o q
    cases e
    obtain ⟨v, ev, r⟩ := paired_get I.env q
    cases v with
    | none => exact r.elim
    | some v =>
      have rr : RepR P K μ s σ H (.slot i) v := ⟨ev, _, q, rfl⟩
      have eb : boxR (.slot i) s = some (.ref s.h.length, ⟨s.ρ.set i (.w (.ref s.h.length)), s.h ++ [o]⟩) := by
        show (match s.ρ[i]? with
          | some (.own o) => some (W.ref s.h.length, (⟨s.ρ.set i (.w (.ref s.h.length)), s.h ++ [o]⟩ : S))
          | some (.w x) => some (x, s)
          | _ => none) = _
        rw [q]
      obtain ⟨μ1, B, sw⟩ := I.box rr eb
      cases sw with
      | @ref _ a ha => exact ⟨μ1, a, ev, ha, B.aft (.refl I) fun b hb => by obtain ⟨⟨o, z⟩, _⟩ := hb; cases z⟩
  · rename_i j' q
    cases e
    obtain ⟨v, ev, r⟩ := paired_get I.env q
    cases v with
    | none => exact r.elim
    | some v =>
      cases (show SimW K μ H (.ref j) v from r) with
      | @ref _ a ha => exact ⟨μ, a, ev, ha, .refl I⟩
theorem good_keys {a : Addr} {kvs : List (D × W)} {ps : List (Key × V)} {od : Obj} {k : Option (Nat × O)} (hk : SimK K μ₀ H₀ kvs ps) (st : H₀ a = some (.frz od (.dK ps))) : Good P K μ₀ H₀ (Itk a od ps) ⟨kvs.map fun q => W.d q.1, k⟩ where
  go := fun μ s σ H i w pre t fz I _ hw => by
    have hw : (kvs.map fun q => W.d q.1)[i]? = some w := hw
    rw [List.getElem?_map] at hw
    obtain ⟨q, e1, rfl⟩ := Option.map_eq_some_iff.mp hw
    obtain ⟨p, e2, r1, r2, r3⟩ := paired_get hk e1
    refine ⟨⟨fz _ _ _ st, (List.getElem?_eq_some_iff.mp e2).1⟩, fun x H' y => ?_⟩
    obtain ⟨e3, k, v, e4, e5⟩ := y
    subst e3 e5
    rw [e2] at e4
    cases e4
    exact ⟨.refl I, .d (r3.mono t)⟩
  stop := fun μ s σ H pre t fz I _ => ⟨fz _ _ _ st, by show ps.length ≤ (kvs.map fun q => W.d q.1).length; rw [List.length_map, Paired.length hk]; exact Nat.le_refl _⟩
/-- the locked dict opens again -/
theorem Aft.thaw {σ₁ : L2.St} {μ1 : List Addr} {s1 s'' : S} {a : Addr} {j : Nat} {kvs : List (D × W)} {ps : List (Key × V)} {od : Obj} (A : Aft P K μ s σ H μ1 s1 H₀) (ha : H₀ a = some (.dK ps)) (hμ : μ1[j]? = some a)
    (B : AftS P K μ1 ⟨s1.ρ, s1.h.set j (.dct true kvs)⟩ σ (upd H₀ a (.frz od (.dK ps))) μ' s' σ₁ H') (e : thaw j kvs s' = some s'') (hk : SimK K μ1 H₀ kvs ps) :
    H' a = some (.frz od (.dK ps)) ∧ Tups K H' (upd H' a (.dK ps)) ∧ AftS P K μ s σ H μ' s'' σ₁ (upd H' a (.dK ps)) := by
  have fz : H' a = some (.frz od (.dK ps)) := B.step.frz a od _ upd_same
  unfold Mn.thaw at e
  split at e <;> cases e
  rename_i q
  have hμ' : μ'[j]? = some a := pre_get B.pre hμ
  have fa : foot μ1 s1 σ a := .inl (List.mem_of_getElem? hμ)
  have t2 : Tups K H' (upd H' a (.dK ps)) := tups_of (fun b xs r => by
    have hb : b ≠ a := fun z => by
      subst z
      rcases r with r | ⟨o, r⟩
      · rw [fz] at r; cases r
      · rw [fz] at r; injection r with r; injection r with _ r; cases r
    rcases r with r | ⟨o, r⟩
    · exact .inl (by rw [upd_ne hb]; exact r)
    · exact .inr ⟨o, by rw [upd_ne hb]; exact r⟩) fun b o xs e => by
      rw [upd_ne fun z => by subst z; rw [fz] at e; injection e with e; injection e with _ e; cases e]; exact e
  have lock : Tups K H₀ (upd H₀ a (.frz od (.dK ps))) := tups_of (fun b xs r => by
    have hb : b ≠ a := fun z => by
      subst z
      rcases r with r | ⟨o, r⟩
      · rw [ha] at r; cases r
      · rw [ha] at r; cases r
    rcases r with r | ⟨o, r⟩
    · exact .inl (by rw [upd_ne hb]; exact r)
    · exact .inr ⟨o, by rw [upd_ne hb]; exact r⟩) fun b o xs e => by rw [upd_ne fun z => by subst z; rw [ha] at e; cases e]; exact e
  have t1 : Tups K (upd H₀ a (.frz od (.dK ps))) H' := tups_of (fun b xs r => by
    have hb : b ≠ a := fun z => by
      subst z
      rcases r with r | ⟨o, r⟩
      · rw [upd_same] at r; cases r
      · rw [upd_same] at r; injection r with r; injection r with _ r; cases r
    have nf : ¬ foot μ1 s1 σ b := fun z => by
      have := (A.sim.notup z).1 xs
      rcases r with r | ⟨o, r⟩
      · rw [upd_ne hb] at r; exact this (.inl r)
      · rw [upd_ne hb] at r; exact this (.inr ⟨o, r⟩)
    rcases r with r | ⟨o, r⟩
    · exact .inl (B.step.keep b _ r nf)
    · exact .inr ⟨o, B.step.keep b _ r nf⟩) fun b o xs e => B.step.frz b o _ e
  obtain ⟨w1, w2, w3⟩ := B.sim.writeA (x := .hp j) (o := .dct true kvs) (o' := .dct false kvs) (a := a) (u := .dK ps) q hμ' ⟨ps, upd_same, hk.mono (lock.trans (t1.trans t2)) B.pre⟩
  refine ⟨fz, t2, w1, A.pre.trans B.pre, ⟨fun b o eb nb => ?_, fun b hb => ?_, fun b eb => ?_, fun b f u eb => ?_⟩⟩
  · have e0 := A.step.keep b o eb nb
    have nf : ¬ foot μ1 s1 σ b := fun z => by
      rcases A.step.new b z with z | z
      · exact nb z
      · rw [eb] at z; cases z
    have hb : b ≠ a := fun z => by subst z; exact nf fa
    rw [upd_ne hb]
    exact B.step.keep b o (by rw [upd_ne hb]; exact e0) nf
  · rcases B.step.new b (w2 b hb) with z | z
    · exact A.step.new b z
    · right
      have hb : b ≠ a := fun y => by subst y; rw [upd_same] at z; cases z
      rw [upd_ne hb] at z
      exact A.step.live b z
  · have hb : b ≠ a := fun y => by subst y; rw [upd_same] at eb; cases eb
    rw [upd_ne hb] at eb
    have := B.step.live b eb
    rw [upd_ne hb] at this
    exact A.step.live b this
  · have e0 := A.step.frz b f u eb
    have hb : b ≠ a := fun y => by subst y; rw [ha] at e0; cases e0
    rw [upd_ne hb]
    exact B.step.frz b f u (by rw [upd_ne hb]; exact e0)
end
section
variable {X : Cx} {P : Pr} {Wx : WX} {pos pos' p p2 tpos : Pos} {a b c e o tg : PySem.Expr} {ca cb cc co : Ex} {vs : List Nat} {t : Tg}
theorem c_forD {i : Nat} {x : PySem.Str} {cb : Mn.St} {body : List PySem.Stmt} (hp : PassesOwn (model X.prog X.w) X.A X.env X.xe) (hc : X.calm = true) (hN : X.N[i]? = some x) (hv : Vis X.env.scope x) (hg : PG X tg (tG P X.K vs t)) (hb : PSs X body (tS P X.K Wx cb))
    (hd : (x == ("__debug__" : PySem.Str)) = false := by decide) (hcd : (x == ("__classdict__" : PySem.Str)) = false := by decide)
    (hs : ∀ y, foldedSetIterable (.Name x p) X.env y = pure y := by intro _; rfl) : PS X (.For tg (.Name x p) body [] pos) (tS P X.K Wx (forD i t cb)) :=
  PS_imp (ps_lock (ps_for hp hc (pi_keys (pe_var hN hv hd hcd)) hg hb hs)) fun D σ H h => by
  obtain ⟨μ, s, I, h⟩ := h
  unfold forD at h
  cases q : pullS i s with
  | none => rw [q] at h; exact h.elim
  | some y =>
    obtain ⟨j, s1⟩ := y
    rw [q] at h
    obtain ⟨μ1, a, hσ, hμ, A⟩ := pull_ok I q
    simp only at h
    split at h <;> first | exact h.elim | skip
    rename_i kvs q2
    obtain ⟨a', ha', ps, ea, hk⟩ := paired_get A.sim.heap q2
    rw [hμ] at ha'
    cases ha'
    refine ⟨a, .dK ps, ea, trivial, fun od => ⟨.ref a, hσ, a, od, rfl, .inl ⟨ps, upd_same, ?_⟩⟩⟩
    have new : SimO P X.K μ1 (upd H a (.frz od (.dK ps))) (.dct true kvs) a := ⟨ps, od, upd_same, hk.mono (tups_upd A.sim (.inl (List.mem_of_getElem? hμ))) (List.prefix_refl _)⟩
    have L := A.sim.write (x := .hp j) q2 (fun _ z => nomatch z) hμ new
    have hk' : SimK X.K μ1 (upd H a (.frz od (.dK ps))) kvs ps := hk.mono (tups_upd A.sim (.inl (List.mem_of_getElem? hμ))) (List.prefix_refl _)
    have G : Good P X.K μ1 (upd H a (.frz od (.dK ps))) (Itk a od ps) ⟨kvs.map fun q => W.d q.1, some (j, .dct true kvs)⟩ := good_keys hk' upd_same
    refine for_of (s := ⟨s1.ρ, s1.h.set j (.dct true kvs)⟩) G L.sim ?_
    generalize forL (some (j, .dct true kvs)) t cb (kvs.map fun q => W.d q.1) ⟨s1.ρ, s1.h.set j (.dct true kvs)⟩ = out at h ⊢
    cases out with
    | bad => exact h
    | exc c xs s' => exact h.elim
    | nx s' =>
      intro μ' σ' H' B
      have h : PstS P X.K Wx μ s σ H (ofOpt (thaw j kvs s')) D := h
      cases e : thaw j kvs s' with
      | none => rw [e] at h; exact h.elim
      | some s'' =>
        rw [e] at h
        obtain ⟨h1, _, h2⟩ := A.thaw ea hμ B e hk
        exact ⟨h1, h μ' σ' _ h2⟩
    | rt r s' =>
      intro μ' σ' H' v B rv fv
      unfold thawO at h
      cases r with
      | new o => exact h.elim
      | slot i => exact h.elim
      | w x =>
        cases e : thaw j kvs s' with
        | none => simp only [e] at h; exact h.elim
        | some s'' =>
          simp only [e] at h
          obtain ⟨h1, h3, h2⟩ := A.thaw ea hμ B e hk
          exact ⟨h1, h μ' σ' _ v h2 (SimW.mono h3 (List.prefix_refl _) rv) trivial⟩
    | bk s' =>
      intro μ' σ' H' B
      have h : PstS P X.K Wx μ s σ H (match thaw j kvs s' with
        | some s1 => .bk s1
        | none => .bad) D := h
      cases e : thaw j kvs s' with
      | none => rw [e] at h; exact h.elim
      | some s'' =>
        rw [e] at h
        obtain ⟨h1, _, h2⟩ := A.thaw ea hμ B e hk
        exact ⟨h1, h μ' σ' _ h2⟩
    | ct s' =>
      intro μ' σ' H' B
      have h : PstS P X.K Wx μ s σ H (match thaw j kvs s' with
        | some s1 => .ct s1
        | none => .bad) D := h
      cases e : thaw j kvs s' with
      | none => rw [e] at h; exact h.elim
      | some s'' =>
        rw [e] at h
        obtain ⟨h1, _, h2⟩ := A.thaw ea hμ B e hk
        exact ⟨h1, h μ' σ' _ h2⟩
end
end Mn

end
section
set_option Elab.async false
set_option linter.all false
set_option maxRecDepth 100000
set_option maxHeartbeats 4000000
/-! MnRule9: comprehensions. -/
namespace Mn
open PySem PySem.Spec PyProof.Rows L2
theorem wipeS_len (vs : List Nat) (ρ : List E0) : (Mn.wipe vs ρ).length = ρ.length := by
  induction vs with
  | nil => rfl
  | cons v vs ih => unfold Mn.wipe; rw [List.length_set, ih]
theorem wipeS_out {i : Nat} : ∀ {vs : List Nat} {ρ : List E0}, i ∉ vs → (Mn.wipe vs ρ)[i]? = ρ[i]?
  | [], _, _ => rfl
  | v :: vs, ρ, h => by
    unfold Mn.wipe
    rw [List.getElem?_set_ne (fun z => h (by simp [z])), wipeS_out fun z => h (List.mem_cons_of_mem _ z)]
theorem wipeS_in {i : Nat} : ∀ {vs : List Nat} {ρ : List E0}, i ∈ vs → i < ρ.length → (Mn.wipe vs ρ)[i]? = some .un
  | [], _, h, _ => by simp at h
  | v :: vs, ρ, h, hl => by
    unfold Mn.wipe
    by_cases e : v = i
    · subst e; rw [List.getElem?_set_self (by rw [wipeS_len]; exact hl)]
    · rw [List.getElem?_set_ne e]
      rcases List.mem_cons.mp h with h | h
      · exact absurd h.symm e
      · exact wipeS_in h hl
theorem wipeσ_out {i : Nat} : ∀ {vs : List Nat} {σ : L2.St}, i ∉ vs → (L2.wipe σ vs)[i]? = σ[i]?
  | [], _, _ => rfl
  | v :: vs, σ, h => by
    unfold L2.wipe
    rw [List.getElem?_set_ne (fun z => h (by simp [z])), wipeσ_out fun z => h (List.mem_cons_of_mem _ z)]
theorem wipeσ_idem (σ : L2.St) (vs : List Nat) : L2.wipe (L2.wipe σ vs) vs = L2.wipe σ vs := by
  refine List.ext_getElem? fun i => ?_
  have key : ∀ (us : List Nat) (τ : L2.St), (∀ k ∈ us, τ[k]? = some none ∨ τ[k]? = none) → L2.wipe τ us = τ := by
    intro us
    induction us with
    | nil => intro τ _; rfl
    | cons u us ih =>
      intro τ h
      unfold L2.wipe
      rw [ih τ fun k hk => h k (List.mem_cons_of_mem _ hk)]
      rcases h u List.mem_cons_self with q | q
      · obtain ⟨hu, e⟩ := List.getElem?_eq_some_iff.mp q
        rw [← e]; exact List.set_getElem_self hu
      · exact List.set_eq_of_length_le (List.getElem?_eq_none_iff.mp q)
  rw [key vs]
  intro k hk
  have inn : ∀ (us : List Nat), k ∈ us → (L2.wipe σ us)[k]? = some none ∨ (L2.wipe σ us)[k]? = none := by
    intro us
    induction us with
    | nil => intro h; simp at h
    | cons u us ih =>
      intro h
      unfold L2.wipe
      by_cases e : u = k
      · subst e
        by_cases hl : u < (L2.wipe σ us).length
        · left; rw [List.getElem?_set_self hl]
        · right; rw [List.getElem?_eq_none_iff, List.length_set]; omega
      · rw [List.getElem?_set_ne e]
        rcases List.mem_cons.mp h with h | h
        · exact absurd h.symm e
        · exact ih h
  exact inn vs hk
theorem restore_len (vs : List Nat) (ρ₀ ρ : List E0) : (restore vs ρ₀ ρ).length = ρ.length := by
  induction vs with
  | nil => rfl
  | cons v vs ih => unfold restore; rw [List.length_set, ih]
theorem restore_out {i : Nat} : ∀ {vs : List Nat} {ρ₀ ρ : List E0}, i ∉ vs → (restore vs ρ₀ ρ)[i]? = ρ[i]?
  | [], _, _, _ => rfl
  | v :: vs, ρ₀, ρ, h => by
    unfold restore
    rw [List.getElem?_set_ne (fun z => h (by simp [z])), restore_out fun z => h (List.mem_cons_of_mem _ z)]
theorem restore_in {i : Nat} : ∀ {vs : List Nat} {ρ₀ ρ : List E0}, i ∈ vs → i < ρ.length → (restore vs ρ₀ ρ)[i]? = some (ρ₀.getD i .un)
  | [], _, _, h, _ => by simp at h
  | v :: vs, ρ₀, ρ, h, hl => by
    unfold restore
    by_cases e : v = i
    · subst e; rw [List.getElem?_set_self (by rw [restore_len]; exact hl)]
    · rw [List.getElem?_set_ne e]
      rcases List.mem_cons.mp h with h | h
      · exact absurd h.symm e
      · exact restore_in h hl
theorem paired_of_get {α β : Type} {F : α → β → Prop} : ∀ {xs : List α} {ys : List β}, xs.length = ys.length → (∀ (i : Nat) x y, xs[i]? = some x → ys[i]? = some y → F x y) → Paired F xs ys
  | [], [], _, _ => .nil
  | [], _ :: _, h, _ => by simp at h
  | _ :: _, [], h, _ => by simp at h
  | x :: xs, y :: ys, h, g => .cons (g 0 x y rfl rfl) (paired_of_get (by simpa using h) fun i a b h1 h2 => g (i + 1) a b (by simpa using h1) (by simpa using h2))
theorem paired_two {α β : Type} {F : α → β → Prop} {xs : List α} {ys : List β} {i : Nat} {x : α} {y : β} (h : Paired F xs ys) (h1 : xs[i]? = some x) (h2 : ys[i]? = some y) : F x y := by
  obtain ⟨y', e, q⟩ := paired_get h h1
  rw [h2] at e
  cases e
  exact q
section
variable {P : Pr} {K : PySem.W.Frag} {μ μ' μ₀ : List Addr} {s s' : S} {σ σ' : L2.St} {H H' H₀ : Hp}
/-- slots forgotten -/
theorem Sim.wipe (I : Sim P K μ s σ H) (vs : List Nat) : Sim P K μ ⟨Mn.wipe vs s.ρ, s.h⟩ (L2.wipe σ vs) H ∧ ∀ i a, Owns ⟨Mn.wipe vs s.ρ, s.h⟩ (L2.wipe σ vs) i a → Owns s σ i a := by
  have sub : ∀ i a, Owns ⟨Mn.wipe vs s.ρ, s.h⟩ (L2.wipe σ vs) i a → Owns s σ i a := fun i a ⟨⟨o, h1⟩, h2⟩ => by
    have h1 : (Mn.wipe vs s.ρ)[i]? = some (.own o) := h1
    by_cases hi : i ∈ vs
    · by_cases hl : i < s.ρ.length
      · rw [wipeS_in hi hl] at h1; cases h1
      · rw [List.getElem?_eq_none_iff.mpr (by rw [wipeS_len]; omega)] at h1; cases h1
    · rw [wipeS_out hi] at h1
      rw [wipeσ_out hi] at h2
      exact ⟨⟨o, h1⟩, h2⟩
  refine ⟨⟨I.heap, paired_of_get (by show (Mn.wipe vs s.ρ).length = _; rw [wipeS_len, L2.wipe_length]; exact I.lenE) fun i x y h1 h2 => ?_, I.nd, fun i a z => I.apart i a (sub i a z), fun i j a z1 z2 => I.inj i j a (sub i a z1) (sub j a z2)⟩, sub⟩
  have h1 : (Mn.wipe vs s.ρ)[i]? = some x := h1
  by_cases hi : i ∈ vs
  · have hl : i < s.ρ.length := by
      have := (List.getElem?_eq_some_iff.mp h1).1
      rw [wipeS_len] at this
      exact this
    rw [wipeS_in hi hl] at h1
    cases h1
    trivial
  · rw [wipeS_out hi] at h1
    rw [wipeσ_out hi] at h2
    exact paired_two I.env h1 h2
theorem foot_sub {s1 : S} {σ1 : L2.St} (sub : ∀ i a, Owns s1 σ1 i a → Owns s σ i a) {a : Addr} (h : foot μ s1 σ1 a) : foot μ s σ a := h.elim .inl fun ⟨i, h⟩ => .inr ⟨i, sub i a h⟩
/-- a list of nobody's is written -/
theorem AftS.other {μ1 : List Addr} {s1 : S} {σ1 : L2.St} {D : Addr} {vs vs' : List V} (A : AftS P K μ s σ H μ1 s1 σ1 H') (h0 : H D = none) (hD : H' D = some (.lst vs)) (nf : ¬ foot μ1 s1 σ1 D) : Tups K H' (upd H' D (.lst vs')) ∧ AftS P K μ s σ H μ1 s1 σ1 (upd H' D (.lst vs')) := by
  have t : Tups K H' (upd H' D (.lst vs')) := tups_of (fun b xs r => by
    have hb : b ≠ D := fun z => by
      subst z
      rcases r with r | ⟨o, r⟩ <;> (rw [hD] at r; cases r)
    rcases r with r | ⟨o, r⟩
    · exact .inl (by rw [upd_ne hb]; exact r)
    · exact .inr ⟨o, by rw [upd_ne hb]; exact r⟩) fun b o xs e => by rw [upd_ne fun z => by subst z; rw [hD] at e; cases e]; exact e
  refine ⟨t, A.sim.over (fun a fa => upd_ne fun z => by subst z; exact nf fa) t (fun dx a e => by rw [upd_ne fun z => by subst z; rw [hD] at e; cases e]; exact e), A.pre, ⟨fun b o eb nb => ?_, A.step.new, fun b eb => ?_, fun b f u eb => ?_⟩⟩
  · rw [upd_ne fun z => by subst z; rw [h0] at eb; cases eb]
    exact A.step.keep b o eb nb
  · have hb : b ≠ D := fun z => by subst z; rw [upd_same] at eb; cases eb
    rw [upd_ne hb] at eb
    exact A.step.live b eb
  · rw [upd_ne fun z => by subst z; rw [h0] at eb; cases eb]
    exact A.step.frz b f u eb
end
/-- a target writes the slots vs alone -/
def TgOk (vs : List Nat) (t : Tg) : Prop := ∀ x s s', t (.w x) s = some s' → s'.h = s.h ∧ s'.ρ.length = s.ρ.length ∧ ∀ i, i ∉ vs → s'.ρ[i]? = s.ρ[i]?
theorem tgOk_v {vs : List Nat} {i : Nat} (h : i ∈ vs) : TgOk vs (tgV i) := fun x s s' e => by
  have e : (if i < s.ρ.length then some (⟨s.ρ.set i (.w x), s.h⟩ : S) else none) = some s' := e
  split at e <;> cases e
  exact ⟨rfl, List.length_set, fun j hj => List.getElem?_set_ne fun z => by subst z; exact hj h⟩
theorem tgsOk {vs : List Nat} : ∀ {ts : List Tg} {ws : List W} {s s' : S}, (∀ t ∈ ts, TgOk vs t) → tgs ts ws s = some s' → s'.h = s.h ∧ s'.ρ.length = s.ρ.length ∧ ∀ i, i ∉ vs → s'.ρ[i]? = s.ρ[i]?
  | [], [], s, s', _, e => by cases e; exact ⟨rfl, rfl, fun _ _ => rfl⟩
  | [], _ :: _, _, _, _, e => nomatch e
  | _ :: _, [], _, _, _, e => nomatch e
  | t :: ts, w :: ws, s, s', h, e => by
    have e : (match t (.w w) s with
      | some s1 => tgs ts ws s1
      | none => none) = some s' := e
    cases q : t (.w w) s with
    | none => rw [q] at e; cases e
    | some s1 =>
      rw [q] at e
      obtain ⟨h1, h2, h3⟩ := h t List.mem_cons_self w s s1 q
      obtain ⟨g1, g2, g3⟩ := tgsOk (fun t ht => h t (List.mem_cons_of_mem _ ht)) e
      exact ⟨g1.trans h1, g2.trans h2, fun i hi => (g3 i hi).trans (h3 i hi)⟩
theorem tgOk_t {vs : List Nat} {ts : List Tg} (h : ∀ t ∈ ts, TgOk vs t) : TgOk vs (tgT ts) := fun x s s' e => by
  have e : (match x.items with
    | some ws => tgs ts ws s
    | none => none) = some s' := e
  cases q : x.items with
  | none => rw [q] at e; cases e
  | some ws => rw [q] at e; exact tgsOk h e
def noW : WX := fun _ _ _ _ => False
def tTs (P : Pr) (K : PySem.W.Frag) (c : Tm) : TT := tT P K noW c
section
variable {X : Cx} {P : Pr} {Wx : WX} {pos pos' p p2 tpos : Pos} {elt iter tg : PySem.Expr} {ifs : List PySem.Expr} {ci : S → Res Mn.It} {ct : Tm} {ce : Ex} {vs : List Nat} {t : Tg} {scope : Scope} {own : List (PySem.Str × Nat)}
/-- a turn's invariant -/
def LcI (P : Pr) (K : PySem.W.Frag) (vs : List Nat) (μ1 : List Addr) (s1 : S) (σ : L2.St) (H1 : Hp) (D : Addr) (F : List W → S → Option (List W × S)) (r : Option (List W × S)) (H' : Hp) : Prop :=
  ∃ acc μ' s' σ' accV, L2.wipe σ' vs = L2.wipe σ vs ∧ AftS P K μ1 s1 σ H1 μ' s' σ' H' ∧ (∀ (i : Nat) e, i ∉ vs → s1.ρ[i]? = some e → e.obj = true → ∃ e', s'.ρ[i]? = some e' ∧ e'.obj = true) ∧
    H' D = some (.lst accV) ∧ SimWs K μ' H' acc accV ∧ ¬ foot μ' s' σ' D ∧ F acc s' = r ∧ r.isSome = true
theorem lc_of {K : PySem.W.Frag} {μ1 : List Addr} {s1 : S} {σ : L2.St} {H1 : Hp} {D : Addr} {it : Mn.It} {J : L2.It} {Q : Hp → Prop} {r : Option (List W × S)} (ht : TgOk vs t) (G : Good P K μ1 H1 J it) (I : Sim P K μ1 s1 σ H1) (hD : H1 D = none) (hr : r.isSome = true)
    (e : lcL it.keep t ct ce vs it.items [] s1 = r) (fin : ∀ H', LcI P K vs μ1 s1 σ H1 D (lcL it.keep t ct ce vs []) r H' → Q H') :
    ∃ W : Nat → Nat → Hp → Prop, (∃ m, W 0 m (upd H1 D (.lst []))) ∧ ∀ i m H, W i m H →
      (J.stop i H ∧ Q H) ∨ (J.go i H ∧ ∃ Nx : Hp → Prop, (∀ H', Nx H' → ∃ m', m' < m ∧ W (i + 1) m' H') ∧ ∀ x H', J.yld i H x H' → tG P K vs t x (L2.wipe σ vs) H' fun σ2 H2 => L2.wipe σ2 vs = L2.wipe σ vs ∧ tT P K noW ct σ2 H2 fun b H3 =>
        if b = true then tE P K noW ce σ2 H3 fun y H4 => ∃ acc, H4 D = some (.lst acc) ∧ acc.length < sizeLine ∧ Nx (upd H4 D (.lst (acc ++ [y]))) else Nx H3) := by
  refine ⟨fun i m H' => m = it.items.length - i ∧ i ≤ it.items.length ∧ LcI P K vs μ1 s1 σ H1 D (lcL it.keep t ct ce vs (it.items.drop i)) r H', ⟨it.items.length, by simp, Nat.zero_le _, ?_⟩, ?_⟩
  · have A := I.alloc (o := .lst []) hD
    exact ⟨[], μ1, s1, σ, [], rfl, A.toS, fun i e _ h1 h2 => ⟨e, h1, h2⟩, upd_same, .nil, fun z => (I.notup z).2.2 hD, e, hr⟩
  rintro i m H' ⟨rfl, hi, L⟩
  obtain ⟨acc, μ', s', σ', accV, hw, A, sl, eD, rs, nf, eF, hr'⟩ := L
  have tt : Tups K H1 H' := I.tups A.step
  by_cases hlt : i < it.items.length
  · right
    have hx : it.items[i]? = some it.items[i] := List.getElem?_eq_getElem hlt
    have eF2 := eF
    rw [List.drop_eq_getElem_cons hlt] at eF2
    have eF2 : (if kept s' it.keep && frees vs s' then (match t (.w it.items[i]) ⟨Mn.wipe vs s'.ρ, s'.h⟩ with
      | some s1 => (match ct s1 with
        | .ok true s2 => (match ce s2 with
          | .ok r s3 => (match boxR r s3 with
            | some (y, s4) => if acc.length < LN then lcL it.keep t ct ce vs (it.items.drop (i + 1)) (acc ++ [y]) s4 else none
            | none => none)
          | _ => none)
        | .ok false s2 => lcL it.keep t ct ce vs (it.items.drop (i + 1)) acc s2
        | _ => none)
      | none => none) else none) = r := eF2
    have nr : ∀ {α : Prop}, none = r → α := fun z => by subst z; cases hr'
    by_cases hk : (kept s' it.keep && frees vs s') = true
    · rw [if_pos hk] at eF2
      rw [Bool.and_eq_true] at hk
      obtain ⟨g1, g2⟩ := G.go μ' s' σ' H' i _ A.pre tt A.step.frz A.sim hk.1 hx
      refine ⟨g1, LcI P K vs μ1 s1 σ H1 D (lcL it.keep t ct ce vs (it.items.drop (i + 1))) r, fun H'' n => ⟨it.items.length - (i + 1), by omega, rfl, hlt, n⟩, fun x H'' y => ?_⟩
      obtain ⟨B, rx⟩ := g2 x H'' y
      obtain ⟨Iw, sub⟩ := B.sim.wipe vs
      rw [hw] at Iw sub
      cases q : t (.w it.items[i]) ⟨Mn.wipe vs s'.ρ, s'.h⟩ with
      | none => rw [q] at eF2; exact nr eF2
      | some s2 =>
        rw [q] at eF2
        simp only at eF2
        refine ⟨_, _, _, _, μ', _, .w it.items[i], s2, .refl Iw, rx, trivial, q, fun μ2 σ2 C w2 => ?_⟩
        refine ⟨w2.trans (wipeσ_idem σ vs), μ2, s2, C.sim, ?_⟩
        -- from the base on
        have AB := A.trans B.toS
        have AW : AftS P K μ1 s1 σ H1 μ' ⟨Mn.wipe vs s'.ρ, s'.h⟩ (L2.wipe σ vs) H'' := ⟨Iw, AB.pre, ⟨AB.step.keep, fun a z => AB.step.new a (foot_sub sub z), AB.step.live, AB.step.frz⟩⟩
        have AC := AW.trans C
        have nfB : ¬ foot μ' s' σ' D := nf
        have eD2 : H'' D = some (.lst accV) := B.step.keep D _ eD nf
        have nfW : ¬ foot μ' ⟨Mn.wipe vs s'.ρ, s'.h⟩ (L2.wipe σ vs) D := fun z => by
          rcases B.step.new D (foot_sub sub z) with z | z
          · exact nf z
          · rw [eD] at z; cases z
        have nfC : ¬ foot μ2 s2 σ2 D := fun z => by
          rcases C.step.new D z with z | z
          · exact nfW z
          · rw [eD2] at z; cases z
        obtain ⟨_, _, tg3⟩ := ht _ _ _ q
        have slC : ∀ (i : Nat) e, i ∉ vs → s1.ρ[i]? = some e → e.obj = true → ∃ e', s2.ρ[i]? = some e' ∧ e'.obj = true := fun i e hi h1 h2 => by
          obtain ⟨e', h3, h4⟩ := sl i e hi h1 h2
          exact ⟨e', by rw [tg3 i hi]; show (Mn.wipe vs s'.ρ)[i]? = _; rw [wipeS_out hi]; exact h3, h4⟩
        have rsC : SimWs K μ2 H'' acc accV := rs.mono (B.tups A.sim) (B.pre.trans C.pre)
        have w2' : L2.wipe σ2 vs = L2.wipe σ vs := w2.trans (wipeσ_idem σ vs)
        cases qc : ct s2 with
        | bad => rw [qc] at eF2; exact nr eF2
        | exc c xs s3 => rw [qc] at eF2; exact nr eF2
        | ok b s3 =>
          rw [qc] at eF2
          intro μ3 H3 C3
          have eD3 : H3 D = some (.lst accV) := C3.step.keep D _ eD2 nfC
          have nf3 : ¬ foot μ3 s3 σ2 D := fun z => by
            rcases C3.step.new D z with z | z
            · exact nfC z
            · rw [eD2] at z; cases z
          have sl3 : ∀ (i : Nat) e, i ∉ vs → s1.ρ[i]? = some e → e.obj = true → ∃ e', s3.ρ[i]? = some e' ∧ e'.obj = true := fun i e hi h1 h2 => let ⟨e', h3, h4⟩ := slC i e hi h1 h2; C3.sl i e' h3 h4
          have rs3 : SimWs K μ3 H3 acc accV := rsC.mono (C3.tups C.sim) C3.pre
          have AC3 := AC.trans C3.toS
          cases b with
          | false =>
            exact ⟨acc, μ3, s3, σ2, accV, w2', AC3, sl3, eD3, rs3, nf3, eF2, hr'⟩
          | true =>
            show tE P K noW ce σ2 H3 _
            refine ⟨μ3, s3, C3.sim, ?_⟩
            simp only at eF2
            cases qe : ce s3 with
            | bad => rw [qe] at eF2; exact nr eF2
            | exc c xs s4 => rw [qe] at eF2; exact nr eF2
            | ok rr s4 =>
              rw [qe] at eF2
              simp only at eF2
              intro μ4 H4 C4 v rv fv
              cases qb : boxR rr s4 with
              | none => rw [qb] at eF2; exact nr eF2
              | some yy =>
                obtain ⟨y', s5⟩ := yy
                rw [qb] at eF2
                simp only at eF2
                by_cases hl : acc.length < LN
                · rw [if_pos hl] at eF2
                  obtain ⟨μ5, Bx, sw⟩ := C4.sim.box rv qb
                  have frs : ∀ a, isNew rr v a → H3 a = none := fun a ⟨⟨o, e1⟩, e2⟩ => by subst e1 e2; exact fv
                  have C5 := Bx.aft C4 frs
                  have eD4 : H4 D = some (.lst accV) := C4.step.keep D _ eD3 nf3
                  have nf5 : ¬ foot μ5 s5 σ2 D := fun z => by
                    rcases C5.step.new D z with z | z
                    · exact nf3 z
                    · rw [eD3] at z; cases z
                  have rs5 : SimWs K μ5 H4 acc accV := rs3.mono (C5.tups C3.sim) C5.pre
                  refine ⟨accV, eD4, by rw [← SimWs_len rs3, ← LN_eq]; exact hl, ?_⟩
                  obtain ⟨t6, A6⟩ := AftS.other (vs' := accV ++ [v]) (AC3.trans C5.toS) hD eD4 nf5
                  exact ⟨acc ++ [y'], μ5, s5, σ2, accV ++ [v], w2', A6, fun i e hi h1 h2 => let ⟨e', h3, h4⟩ := sl3 i e hi h1 h2; C5.sl i e' h3 h4, upd_same, (rs5.snoc sw).mono t6 (List.prefix_refl _), nf5, eF2, hr'⟩
                · rw [if_neg hl] at eF2; exact nr eF2
    · rw [if_neg hk] at eF2; exact nr eF2
  · left
    have e : i = it.items.length := by omega
    subst e
    rw [List.drop_length] at eF
    refine ⟨?_, fin H' ⟨acc, μ', s', σ', accV, hw, A, sl, eD, rs, nf, eF, hr'⟩⟩
    have eF2 : (if kept s' it.keep && frees vs s' then some (acc, s') else none) = r := eF
    by_cases hk : (kept s' it.keep && frees vs s') = true
    · rw [Bool.and_eq_true] at hk
      exact G.stop μ' s' σ' H' A.pre tt A.step.frz A.sim hk.1
    · rw [if_neg hk] at eF2; subst eF2; cases hr'
theorem lc_end {K : PySem.W.Frag} {μ : List Addr} {s : S} {H : Hp} {μ1 : List Addr} {s1 : S} {σ : L2.St} {H1 : Hp} {D : Addr} {it : Mn.It} {r : Option (List W × S)} {H' : Hp} {ws : List W} {s2 : S} (A : Aft P K μ s σ H μ1 s1 H1) (hD : H1 D = none) (f1 : frees vs s1 = true) (hr : r = some (ws, s2))
    (L : LcI P K vs μ1 s1 σ H1 D (lcL it.keep t ct ce vs []) r H') : ∃ μ', Aft P K μ s σ H μ' ⟨restore vs s1.ρ s2.ρ, s2.h⟩ H' ∧ RepR P K μ' ⟨restore vs s1.ρ s2.ρ, s2.h⟩ σ H' (.new (.lst ws)) (.ref D) := by
  obtain ⟨acc, μ', s', σ', accV, hw, B, sl, eD, rs, nf, eF, hr'⟩ := L
  have eF2 : (if kept s' it.keep && frees vs s' then some (acc, s') else none) = r := eF
  by_cases hk : (kept s' it.keep && frees vs s') = true
  · rw [if_pos hk, hr] at eF2
    cases eF2
    have lσ : σ'.length = σ.length := by rw [← L2.wipe_length σ' vs, hw, L2.wipe_length]
    have lρ : s2.ρ.length = s1.ρ.length := by rw [B.sim.lenE, A.sim.lenE, lσ]
    have eσ : ∀ (i : Nat), i ∉ vs → σ'[i]? = σ[i]? := fun i hi => by rw [← wipeσ_out (σ := σ') hi, hw, wipeσ_out hi]
    have fr : ∀ (i : Nat), i ∈ vs → (s1.ρ.getD i .un).free = true := fun i hi => by
      unfold frees at f1
      exact List.all_eq_true.mp f1 i hi
    have sub : ∀ i a, Owns ⟨restore vs s1.ρ s2.ρ, s2.h⟩ σ i a → Owns s2 σ' i a := fun i a ⟨⟨o, h1⟩, h2⟩ => by
      have h1 : (restore vs s1.ρ s2.ρ)[i]? = some (.own o) := h1
      by_cases hi : i ∈ vs
      · by_cases hl : i < s2.ρ.length
        · rw [restore_in hi hl] at h1
          have := fr i hi
          rw [Option.some.inj h1] at this
          cases this
        · rw [List.getElem?_eq_none_iff.mpr (by rw [restore_len]; omega)] at h1; cases h1
      · rw [restore_out hi] at h1
        exact ⟨⟨o, h1⟩, (eσ i hi).trans h2⟩
    have tt : Tups K H1 H' := A.sim.tups B.step
    have S1 : Sim P K μ' ⟨restore vs s1.ρ s2.ρ, s2.h⟩ σ H' := by
      refine ⟨B.sim.heap, paired_of_get (by show (restore vs s1.ρ s2.ρ).length = _; rw [restore_len, lρ]; exact A.sim.lenE) fun i x y h1 h2 => ?_, B.sim.nd, fun i a z => B.sim.apart i a (sub i a z), fun i j a z1 z2 => B.sim.inj i j a (sub i a z1) (sub j a z2)⟩
      have h1 : (restore vs s1.ρ s2.ρ)[i]? = some x := h1
      have hl : i < s2.ρ.length := by
        have := (List.getElem?_eq_some_iff.mp h1).1
        rw [restore_len] at this
        exact this
      by_cases hi : i ∈ vs
      · rw [restore_in hi hl] at h1
        have ex : s1.ρ[i]? = some x := by
          rw [← Option.some.inj h1, List.getD_eq_getElem?_getD, List.getElem?_eq_getElem (by omega)]
          rfl
        have q := paired_two A.sim.env ex h2
        have f := fr i hi
        rw [Option.some.inj h1] at f
        cases x with
        | un => trivial
        | own o => cases f
        | w x => cases y with
          | none => exact q
          | some y => exact SimW.mono tt B.pre q
      · rw [restore_out hi] at h1
        rw [← eσ i hi] at h2
        exact paired_two B.sim.env h1 h2
    have nfR : ¬ foot μ' ⟨restore vs s1.ρ s2.ρ, s2.h⟩ σ D := fun z => nf (foot_sub sub z)
    refine ⟨μ', A.trans ⟨S1, B.pre, ⟨B.step.keep, fun a z => B.step.new a (foot_sub sub z), B.step.live, B.step.frz⟩, fun i e h1 h2 => ?_⟩, D, rfl, ⟨accV, eD, rs⟩, nfR⟩
    have hl : i < s2.ρ.length := by
      have := (List.getElem?_eq_some_iff.mp h1).1
      omega
    by_cases hi : i ∈ vs
    · refine ⟨e, ?_, h2⟩
      show (restore vs s1.ρ s2.ρ)[i]? = _
      rw [restore_in hi hl, List.getD_eq_getElem?_getD, h1]
      rfl
    · obtain ⟨e', h3, h4⟩ := sl i e hi h1 h2
      exact ⟨e', by show (restore vs s1.ρ s2.ρ)[i]? = _; rw [restore_out hi]; exact h3, h4⟩
  · rw [if_neg hk] at eF2; subst eF2; cases hr
theorem lcL_frees {k : Option (Nat × O)} {xs acc : List W} {s : S} (h : (lcL k t ct ce vs xs acc s).isSome = true) : frees vs s = true := by
  cases xs with
  | nil =>
    have h : (if kept s k && frees vs s then some (acc, s) else none).isSome = true := h
    by_cases hk : (kept s k && frees vs s) = true
    · exact (Bool.and_eq_true _ _ ▸ hk).2
    · rw [if_neg hk] at h; cases h
  | cons x xs =>
    by_cases hk : (kept s k && frees vs s) = true
    · exact (Bool.and_eq_true _ _ ▸ hk).2
    · unfold lcL at h
      rw [if_neg hk] at h
      cases h
theorem tLc_of {K : PySem.W.Frag} (ht : TgOk vs t) {σ : L2.St} {H : Hp} {Q : VK} (h : tE P K Wx (lcE ci t ct ce vs) σ H Q) : tLc (tI P K Wx ci) (tG P K vs t) (tT P K noW ct) (tE P K noW ce) vs σ H Q := by
  obtain ⟨μ, s, I, h⟩ := h
  refine ⟨μ, s, I, (Pst.bind h).mono fun it s1 μ1 H1 A h J G D hD => ?_⟩
  cases e : lcL it.keep t ct ce vs it.items [] s1 with
  | none => rw [e] at h; exact h.elim
  | some y =>
    obtain ⟨ws, s2⟩ := y
    rw [e] at h
    refine lc_of ht G A.sim hD rfl e fun H' L => ?_
    obtain ⟨μ', A2, rr⟩ := lc_end (ct := ct) (ce := ce) (t := t) (it := it) A hD (lcL_frees (by rw [e]; rfl)) rfl L
    exact h μ' H' A2 (.ref D) rr (A.step.live D hD)
theorem s_lc (ht : TgOk (own.map (·.2)) t) (hc : X.calm = true) (hN : X.N.Nodup) (hi : PI X tg iter (tI P X.K Wx ci)) (ok : BlkOk X.N X.env.scope scope own)
    (hg : ∀ (s : Shared) (H : Hp) (C : Addr) (cl : List (PySem.Str × Addr)) (fp : List Addr), PG (X.blk s H scope (compEnvC scope cl C X.env) fp) tg (tG P X.K (own.map (·.2)) t))
    (hts : ∀ (s : Shared) (H : Hp) (C : Addr) (cl : List (PySem.Str × Addr)) (fp : List Addr), PTs (X.blk s H scope (compEnvC scope cl C X.env) fp) ifs (tT P X.K noW ct))
    (he : ∀ (s : Shared) (H : Hp) (C : Addr) (cl : List (PySem.Str × Addr)) (fp : List Addr), PE (X.blk s H scope (compEnvC scope cl C X.env) fp) elt (tE P X.K noW ce)) (hs : ∀ x, foldedSetIterable iter X.env x = pure x := by intro _; rfl) :
    PE X (.ListComp elt [⟨tg, iter, ifs, 0⟩] scope pos) (tE P X.K Wx (lcE ci t ct ce (own.map (·.2)))) := PE_imp (pe_lc hc hN hi ok hg hts he hs) fun σ H Q h => tLc_of ht h
/-- name = [..] -/
theorem c_setLc {i : Nat} {y : PySem.Str} {py spos : Pos} (ht : TgOk (own.map (·.2)) t) (hc : X.calm = true) (hN : X.N.Nodup) (hy : X.N[i]? = some y) (hyl : X.env.scope.names.lookup y = some .local)
    (hsw : swapsWith (.ListComp elt [⟨tg, iter, ifs, 0⟩] scope pos) (some (.Name y py)) spos.line X.env = pure true) (hi : PI X tg iter (tI P X.K Wx ci)) (ok : BlkOk X.N X.env.scope scope own)
    (hg : ∀ (s : Shared) (H : Hp) (C : Addr) (cl : List (PySem.Str × Addr)) (fp : List Addr), PG (X.blk s H scope (compEnvC scope cl C X.env) fp) tg (tG P X.K (own.map (·.2)) t))
    (hts : ∀ (s : Shared) (H : Hp) (C : Addr) (cl : List (PySem.Str × Addr)) (fp : List Addr), PTs (X.blk s H scope (compEnvC scope cl C X.env) fp) ifs (tT P X.K noW ct))
    (he : ∀ (s : Shared) (H : Hp) (C : Addr) (cl : List (PySem.Str × Addr)) (fp : List Addr), PE (X.blk s H scope (compEnvC scope cl C X.env) fp) elt (tE P X.K noW ce)) (hs : ∀ x, foldedSetIterable iter X.env x = pure x := by intro _; rfl) :
    PS X (.Assign [.Name y py] (.ListComp elt [⟨tg, iter, ifs, 0⟩] scope pos) spos) (tS P X.K Wx (setS i (lcE ci t ct ce (own.map (·.2))))) := PS_imp (ps_setLc hc hN hy hyl hsw hi ok hg hts he hs) fun D σ H h => by
  obtain ⟨μ, s, I, h⟩ := h
  refine tLc_of ht ⟨μ, s, I, (PstS.res h).mono fun r s1 μ1 H1 A h v rv fv => ?_⟩
  cases q : asg i r s1 with
  | none => rw [q] at h; exact h.elim
  | some s2 =>
    rw [q] at h
    obtain ⟨μ2, A2⟩ := Sim.asgOk A.toS rv fv q
    exact h μ2 _ H1 A2
theorem ts_nil : PTs X [] (tT P X.K Wx yesT) := ⟨fun pins s σ H Q I h => pts_nil.run pins s σ H Q I (by
  obtain ⟨μ, s, I, h⟩ := h
  exact h μ H (.refl I))⟩
theorem ts_one {c : PySem.Expr} (h : PT X c (tT P X.K Wx ct)) : PTs X [c] (tT P X.K Wx ct) := pts_one h
end
end Mn

end
section
set_option Elab.async false
set_option linter.all false
set_option maxRecDepth 100000
set_option maxHeartbeats 4000000
/-! MnRule10: calls of defs. -/
namespace Mn
open PySem PySem.Spec PyProof.Rows L2
abbrev S.nil (h : List O) : S := ⟨[], h⟩
def PstF (P : Pr) (K : PySem.W.Frag) (μ : List Addr) (h : List O) (H : Hp) (x : Res2) (Q : VK) (E : XK) : Prop := match x with
  | .ok r h' => ∀ μ' H' v, Aft P K μ (S.nil h) [] H μ' (S.nil h') H' → RepR P K μ' (S.nil h') [] H' r v → Frs H r v → Q v H'
  | .exc c xs h' => ∀ μ' H' d, Aft P K μ (S.nil h) [] H μ' (S.nil h') H' → ExcAt P K μ' (S.nil h') [] H' xs d → E (.ref (P.ca c)) (some d) H'
  | .bad => False
/-- a def's promise -/
def spF (P : Pr) (K : PySem.W.Frag) (call : Call) (f n : Nat) : Sp := fun vs H Q E => vs.length = n ∧ ∃ μ h ws, Sim P K μ (S.nil h) [] H ∧ SimWs K μ H ws vs ∧ PstF P K μ h H (call f ws h) Q E
section
variable {P : Pr} {K : PySem.W.Frag} {μ μ' μ₀ : List Addr} {s s' : S} {σ σ' : L2.St} {H H' H₀ : Hp} {h h' : List O}
theorem Sim.noSlots (I : Sim P K μ s σ H) : Sim P K μ (S.nil s.h) [] H := ⟨I.heap, .nil, I.nd, fun i a z => by obtain ⟨⟨o, z⟩, _⟩ := z; simp at z, fun i j a z => by obtain ⟨⟨o, z⟩, _⟩ := z; simp at z⟩
/-- slots of values alone -/
theorem Sim.entry {ws : List W} {vs : List V} {N : List PySem.Str} {n : Nat} (I : Sim P K μ (S.nil h) [] H) (r : SimWs K μ H ws vs) (hn : n = N.length - vs.length) : Sim P K μ ⟨ws.map .w ++ List.replicate n .un, h⟩ (start N vs) H ∧ ∀ i a, ¬ Owns ⟨ws.map .w ++ List.replicate n .un, h⟩ (start N vs) i a := by
  have no : ∀ i a, ¬ Owns ⟨ws.map .w ++ List.replicate n .un, h⟩ (start N vs) i a := fun i a ⟨⟨o, z⟩, _⟩ => by
    have z : (ws.map E0.w ++ List.replicate n .un)[i]? = some (.own o) := z
    have := List.mem_of_getElem? z
    rcases List.mem_append.mp this with q | q
    · obtain ⟨w, _, e⟩ := List.mem_map.mp q; cases e
    · cases (List.mem_replicate.mp q).2
  refine ⟨⟨I.heap, ?_, I.nd, fun i a z => absurd z (no i a), fun i j a z => absurd z (no i a)⟩, no⟩
  show Paired _ (ws.map E0.w ++ List.replicate n .un) (vs.map some ++ List.replicate (N.length - vs.length) none)
  subst hn
  have key : ∀ {ws : List W} {vs : List V} {e : List E0} {σ : L2.St}, SimWs K μ H ws vs → Paired (SimE P K μ H) e σ → Paired (SimE P K μ H) (ws.map .w ++ e) (vs.map some ++ σ) := by
    intro ws
    induction ws with
    | nil => intro vs e σ r p; cases r; exact p
    | cons w ws ih => intro vs e σ r p; cases r with | cons q t => exact .cons q (ih t p)
  refine key r ?_
  generalize N.length - vs.length = m
  clear r no
  induction m with
  | zero => exact .nil
  | succ m ih => exact .cons trivial ih
theorem callee_out (no : ∀ i a, ¬ Owns s σ i a) (A : AftS P K μ s σ H μ' s' σ' H') : Aft P K μ (S.nil s.h) [] H μ' (S.nil s'.h) H' := by
  refine ⟨A.sim.noSlots, A.pre, ⟨fun a o e nf => A.step.keep a o e fun z => ?_, fun a z => ?_, A.step.live, A.step.frz⟩, fun i e z => by simp at z⟩
  · rcases z with z | ⟨i, z⟩
    · exact nf (.inl z)
    · exact no i a z
  · rcases z with z | ⟨i, ⟨o, z⟩, _⟩
    · rcases A.step.new a (.inl z) with q | q
      · rcases q with q | ⟨i, q⟩
        · exact .inl (.inl q)
        · exact absurd q (no i a)
      · exact .inr q
    · simp at z
/-- behind a call: the caller's slots stand -/
theorem call_out (I : Sim P K μ s σ H) (A : Aft P K μ (S.nil s.h) [] H μ' (S.nil h') H') : Aft P K μ s σ H μ' ⟨s.ρ, h'⟩ H' := by
  have nw : ∀ a, a ∈ μ' → a ∈ μ ∨ H a = none := fun a z => by
    rcases A.step.new a (.inl z) with (q | ⟨i, ⟨o, q⟩, _⟩) | q
    · exact .inl q
    · simp at q
    · exact .inr q
  have step : Step (foot μ s σ) H (foot μ' ⟨s.ρ, h'⟩ σ) H' := ⟨fun a o e nf => A.step.keep a o e fun z => by
      rcases z with z | ⟨i, ⟨o, z⟩, _⟩
      · exact nf (.inl z)
      · simp at z, fun a z => by
      rcases z with z | z
      · exact (nw a z).imp .inl id
      · exact .inl (.inr z), A.step.live, A.step.frz⟩
  have tt : Tups K H H' := I.tups step
  have ownK : ∀ i a, Owns s σ i a → a ∉ μ' ∧ H' a = H a := fun i a z => by
    have fa : foot μ s σ a := .inr ⟨i, z⟩
    have hn := (I.notup fa).2.2
    refine ⟨fun m => ?_, ?_⟩
    · rcases nw a m with q | q
      · exact I.apart i a z q
      · exact hn q
    · cases e : H a with
      | none => exact absurd e hn
      | some o =>
        refine A.step.keep a o e fun y => ?_
        rcases y with y | ⟨i, ⟨o, y⟩, _⟩
        · exact I.apart _ a z y
        · simp at y
  refine ⟨⟨A.sim.heap, ?_, A.sim.nd, fun i a z => (ownK i a z).1, I.inj⟩, A.pre, step, fun i e h1 h2 => ⟨e, h1, h2⟩⟩
  refine paired_of_get (Paired.length I.env) fun i x y h1 h2 => ?_
  have q := paired_two I.env h1 h2
  cases x with
  | un => trivial
  | w x => cases y with
    | none => exact q
    | some y => exact SimW.mono tt A.pre q
  | own o => cases y with
    | none => exact q
    | some y =>
      cases y <;> first | exact q | skip
      rename_i a
      refine SimO.mono tt A.pre (ownK i a ⟨⟨o, h1⟩, h2⟩).2 (fun dx e => A.step.keep dx _ e fun z => ?_) q
      rcases z with z | ⟨i, ⟨o, z⟩, _⟩
      · exact (I.notup (.inl z)).2.1 _ e
      · simp at z
theorem call_rep (I : Sim P K μ s σ H) (A : Aft P K μ (S.nil s.h) [] H μ' (S.nil h') H') {r : R} {v : V} (q : RepR P K μ' (S.nil h') [] H' r v) (f : Frs H r v) : RepR P K μ' ⟨s.ρ, h'⟩ σ H' r v := by
  cases r with
  | w x => exact q
  | slot i => obtain ⟨q, _⟩ := q; simp at q
  | new o =>
    obtain ⟨a, rfl, q1, q2⟩ := q
    refine ⟨a, rfl, q1, fun z => ?_⟩
    rcases z with z | ⟨i, z⟩
    · exact q2 (.inl z)
    · exact (I.notup (.inr ⟨i, z⟩)).2.2 f
end
/-- THE RULE for a def -/
theorem def_ok {P : Pr} {Pg : Program} {w : World} {K : PySem.W.Frag} {mg : PySem.Str → Option Value} {base : Heap} {x qual : PySem.Str} {params : Arguments} {body : List Stmt} {scope : Scope} {dvs : List V} {kws : List (PySem.Str × V)} {f : Addr} {fd : FuncData} {N ps : List PySem.Str} {k i : Nat} {fns : List Fn} {F : Fn}
    (D : FunD K x qual params body scope dvs kws f fd) (Sc : FnScope N ps scope) (hF : fns[i]? = some F) (h1 : F.ps = ps.length) (h2 : F.n = N.length) (hle : ps.length ≤ N.length)
    (hb : ∀ (cdv : Value) (A : Around) (outer : List Env) (s : Shared) (H : Hp) (E : XK), Room k (A.deeper (envOfC qual scope s.heap.objs.size f cdv)) →
      PSs (cxOf (L2.CX Pg w) Pg w K mg base N qual scope f cdv A outer s H E) body (tS P K (fun cls d _ H => E cls d H) (F.body (callF fns k)))) :
    FnOk Pg w K mg base (L2.CX Pg w) (k + 1) f fd ps (spF P K (callF fns (k + 1)) i ps.length) := by
  refine D.ok Sc (fun vs H Q E h => h.1) fun cdv A outer s H vs Q E hr hsp => ⟨_, hb cdv A outer s H E hr, ?_⟩
  obtain ⟨hl, μ, h, ws, I, rs, hsp⟩ := hsp
  have hlw := SimWs_len rs
  have e : callF fns (k + 1) i ws h = outF (F.body (callF fns k) ⟨ws.map E0.w ++ List.replicate (F.n - F.ps) E0.un, h⟩) := by
    show (match fns[i]? with
      | some F => if ws.length = F.ps then outF (F.body (callF fns k) ⟨ws.map E0.w ++ List.replicate (F.n - F.ps) E0.un, h⟩) else .bad
      | none => .bad) = _
    rw [hF]
    simp only
    rw [if_pos (by rw [hlw, hl, h1])]
  rw [e] at hsp
  obtain ⟨I2, no⟩ := I.entry (N := N) (n := F.n - F.ps) rs (by rw [h1, h2, hl])
  refine ⟨μ, _, I2, ?_⟩
  generalize F.body (callF fns k) ⟨ws.map E0.w ++ List.replicate (F.n - F.ps) E0.un, h⟩ = out at hsp ⊢
  cases out with
  | bad => exact hsp
  | bk s' => exact hsp.elim
  | ct s' => exact hsp.elim
  | nx s' => exact fun μ' σ' H' B => hsp μ' H' .non (callee_out no B) (SimW.d .non) trivial
  | exc c xs s' => exact fun μ' σ' H' d B ex => hsp μ' H' d (callee_out no B) (by
      obtain ⟨fs, e1, e2, e3⟩ := ex
      exact ⟨fs, e1, e2, fun z => e3 (by
        rcases z with z | ⟨i, ⟨o, z⟩, _⟩
        · exact .inl z
        · simp at z)⟩)
  | rt r s' =>
    intro μ' σ' H' v B rv fv
    have C := callee_out no B
    have nf : ∀ a, ¬ foot μ' s' σ' a → ¬ foot μ' (S.nil s'.h) [] a := fun a n z => by
      rcases z with z | ⟨i, ⟨o, z⟩, _⟩
      · exact n (.inl z)
      · simp at z
    cases r with
    | w y => exact hsp μ' H' v C rv trivial
    | new o =>
      obtain ⟨a, rfl, q1, q2⟩ := rv
      exact hsp μ' H' _ C ⟨a, rfl, q1, nf a q2⟩ fv
    | slot j =>
      obtain ⟨g1, e0, g2, g3⟩ := rv
      have hsp : PstF P K μ h H (match s'.ρ[j]? with
        | some (.own o) => .ok (.new o) s'.h
        | some (.w x) => .ok (.w x) s'.h
        | _ => .bad) Q E := hsp
      rw [g2] at hsp
      have q := paired_two B.sim.env g2 g1
      cases e0 with
      | un => cases g3
      | w y => exact hsp μ' H' v C q trivial
      | own o =>
        cases v <;> first | exact q.elim | skip
        rename_i a
        have ow : Owns s' σ' j a := ⟨⟨o, g2⟩, g1⟩
        refine hsp μ' H' _ C ⟨a, rfl, q, fun z => ?_⟩ ?_
        · rcases z with z | ⟨i, ⟨o, z⟩, _⟩
          · exact B.sim.apart j a ow z
          · simp at z
        · rcases B.step.new a (.inr ⟨j, ow⟩) with z | z
          · rcases z with z | ⟨i, z⟩
            · exact absurd (B.pre.subset z) (B.sim.apart j a ow)
            · exact absurd z (no i a)
          · exact z
section
variable {X : Cx} {P : Pr} {Wx : WX} {pos p : Pos} {e : PySem.Expr} {es : List PySem.Expr} {kws : List Keyword} {as : As} {call : Call} {i k : Nat} {f : Addr} {fd : FuncData} {ps ks : List PySem.Str} {x : PySem.Str} {perm : List Nat}
/-- the arguments are reckoned, the def runs -/
theorem run_of {K : PySem.W.Frag} {μ : List Addr} {s : S} {σ : L2.St} {H : Hp} {Q : VK} {s2 : S} {ws : List W} {us : List V} {n : Nat} {H1 : Hp} {μ1 : List Addr} (hl : us.length = n) (A : Aft P K μ s σ H μ1 s2 H1) (rs : SimWs K μ1 H1 ws us)
    (h : Pst P K Wx μ s σ H (backC s2.ρ (call i ws s2.h)) fun r s' μ' H' => ∀ v, RepR P K μ' s' σ H' r v → Frs H r v → Q v H') : spF P K call i n us H1 Q (WE Wx σ) := by
  refine ⟨hl, μ1, s2.h, ws, A.sim.noSlots, rs, ?_⟩
  cases q : call i ws s2.h with
  | bad => rw [q] at h; exact h.elim
  | ok r h' =>
    rw [q] at h
    intro μ' H' v C rv fv
    exact h μ' H' (A.trans (call_out A.sim C)) v (call_rep A.sim C rv fv) (fv.back A.step.live)
  | exc c xs h' =>
    rw [q] at h
    intro μ' H' d C ex
    refine h μ' H' d (A.trans (call_out A.sim C)) ?_
    obtain ⟨fs, e1, e2, e3⟩ := ex
    refine ⟨fs, e1, e2, fun z => ?_⟩
    rcases z with z | ⟨j, z⟩
    · exact e3 (.inl z)
    · have D := call_out A.sim C
      obtain ⟨o, so⟩ := D.sim.at_foot (.inr ⟨j, z⟩)
      cases o with
      | lst _ => obtain ⟨_, e4, _⟩ := so; rw [e1] at e4; cases e4
      | dct b _ => cases b with
        | false => obtain ⟨_, e4, _⟩ := so; rw [e1] at e4; cases e4
        | true => obtain ⟨_, _, e4, _⟩ := so; rw [e1] at e4; cases e4
      | ins _ _ => obtain ⟨_, _, e4, _⟩ := so; rw [e1] at e4; cases e4
mutual
theorem SimW.pure {K : PySem.W.Frag} {μ μ2 : List Addr} {H : Hp} : ∀ {w : W} {v : V}, SimW K μ H w v → w.pure = true → SimW K μ2 H w v
  | _, _, .d h, _ => .d h
  | _, _, .scr h, _ => .scr h
  | _, _, .ref _, e => nomatch e
  | _, _, .tup h r, e => .tup h (SimWs.pure r (by unfold W.pure at e; exact e))
theorem SimWs.pure {K : PySem.W.Frag} {μ μ2 : List Addr} {H : Hp} : ∀ {w : List W} {v : List V}, SimWs K μ H w v → W.pures w = true → SimWs K μ2 H w v
  | _, _, .nil, _ => .nil
  | _, _, .cons h r, e => by
    unfold W.pures at e
    rw [Bool.and_eq_true] at e
    exact .cons (SimW.pure h e.1) (SimWs.pure r e.2)
end
theorem SimK.pure {K : PySem.W.Frag} {μ μ2 : List Addr} {H : Hp} {kvs : List (D × W)} {ps : List (Key × V)} (h : SimK K μ H kvs ps) (e : W.pures (kvs.map (·.2)) = true) : SimK K μ2 H kvs ps := by
  induction h with
  | nil => exact .nil
  | cons h t ih =>
    simp only [List.map_cons, W.pures, Bool.and_eq_true] at e
    exact .cons ⟨h.1, SimW.pure h.2.1 e.1, h.2.2⟩ (ih e.2)
/-- what stands aside of all -/
theorem aside {P : Pr} {K : PySem.W.Frag} {μ : List Addr} {s : S} {σ : L2.St} {H : Hp} {μ' : List Addr} {h' : List O} {H' : Hp} (I : Sim P K μ s σ H) (A : Aft P K [] (S.nil []) [] H μ' (S.nil h') H') : Aft P K μ s σ H μ s H' := by
  have nf : ∀ a, ¬ foot [] (S.nil []) [] a := fun a z => by
    rcases z with z | ⟨i, ⟨o, z⟩, _⟩
    · simp at z
    · simp at z
  have kp : ∀ a o, H a = some o → H' a = some o := fun a o e => A.step.keep a o e (nf a)
  have tt : Tups K H H' := tups_of (fun a xs q => q.elim (fun q => .inl (kp _ _ q)) fun ⟨o, q⟩ => .inr ⟨o, kp _ _ q⟩) fun a o xs e => kp _ _ e
  refine ⟨I.over (fun a fa => ?_) tt (fun dx a e => kp _ _ e), List.prefix_refl _, ⟨fun a o e _ => kp a o e, fun a h => .inl h, A.step.live, A.step.frz⟩, fun i e h1 h2 => ⟨e, h1, h2⟩⟩
  cases e : H a with
  | none => exact absurd e (I.notup fa).2.2
  | some o => exact kp a o e
theorem run_ofH {K : PySem.W.Frag} {μ : List Addr} {s : S} {σ : L2.St} {H : Hp} {Q : VK} {s2 : S} {ws : List W} {us : List V} {n : Nat} {H1 : Hp} {μ1 : List Addr} (hl : us.length = n) (A : Aft P K μ s σ H μ1 s2 H1) (rs : SimWs K μ1 H1 ws us)
    (h : Pst P K Wx μ s σ H (callV call i ws s2) fun r s' μ' H' => ∀ v, RepR P K μ' s' σ H' r v → Frs H r v → Q v H') : spF P K call i n us H1 Q (WE Wx σ) := by
  unfold callV at h
  by_cases hp : W.pures ws = true
  · rw [if_pos hp] at h
    refine ⟨hl, [], [], ws, ⟨.nil, .nil, .nil, fun i a z => by obtain ⟨⟨o, z⟩, _⟩ := z; simp at z, fun i j a z => by obtain ⟨⟨o, z⟩, _⟩ := z; simp at z⟩, SimWs.pure rs hp, ?_⟩
    cases q : call i ws [] with
    | bad => rw [q] at h; exact h.elim
    | ok r h' =>
      rw [q] at h
      have h : Pst P K Wx μ s σ H (if pureR r then .ok r s2 else .bad) _ := h
      by_cases hr : pureR r = true
      · rw [if_pos hr] at h
        intro μ' H' v C rv fv
        have D := aside A.sim C
        refine h μ1 H' (A.trans D) v ?_ (fv.back A.step.live)
        cases r with
        | slot j => cases hr
        | w x => exact SimW.pure rv hr
        | new o =>
          obtain ⟨a, rfl, q1, q2⟩ := rv
          refine ⟨a, rfl, ?_, fun z => (A.sim.notup z).2.2 fv⟩
          cases o with
          | lst ws => obtain ⟨vs, e1, r1⟩ := q1; exact ⟨vs, e1, SimWs.pure r1 hr⟩
          | ins c fs => cases hr
          | dct b kvs =>
            cases b with
            | true => cases hr
            | false => obtain ⟨vs, e1, r1⟩ := q1; exact ⟨vs, e1, SimK.pure r1 hr⟩
      · rw [if_neg hr] at h; exact h.elim
    | exc c xs h' =>
      rw [q] at h
      intro μ' H' d C ex
      have D := aside A.sim C
      refine h μ1 H' d (A.trans D) ?_
      obtain ⟨fs, e1, e2, e3⟩ := ex
      refine ⟨fs, e1, e2, fun z => ?_⟩
      obtain ⟨o, so⟩ := D.sim.at_foot z
      cases o with
      | lst _ => obtain ⟨_, e4, _⟩ := so; rw [e1] at e4; cases e4
      | dct b _ => cases b with
        | false => obtain ⟨_, e4, _⟩ := so; rw [e1] at e4; cases e4
        | true => obtain ⟨_, _, e4, _⟩ := so; rw [e1] at e4; cases e4
      | ins _ _ => obtain ⟨_, _, e4, _⟩ := so; rw [e1] at e4; cases e4
  · rw [if_neg hp] at h
    exact run_of hl A rs h
theorem s_call (F : FnOk X.prog X.w X.K X.mg X.base (L2.CX X.prog X.w) k f fd ps (spF P X.K call i ps.length)) (tk : Takes X Wx) (hr : Room k X.A) (hg : Gl X x) (hm : X.mg x = some (.ref f)) (hk : PySem.W.keepIn X.K (.ref f) = true) (hb : Binds X.K fd ps [])
    (hl : (e :: es).length = ps.length) (hlen : ∀ s rs s', as s = .ok rs s' → rs.length = (e :: es).length)
    (ha : PA X (e :: es) (tA P X.K Wx as)) (hdb : (x == ("__debug__" : PySem.Str)) = false := by decide) (he : starEach (e :: es) X.env = (false, eval e X.env) :: starEach es X.env := by rfl) (hpl : (backTo pos (starEach es X.env)).any (·.1) = false := by rfl) :
    PE X (.Call (.Name x p) (e :: es) [] pos) (tE P X.K Wx (callE call i as)) := PE_imp (pe_callS (E := WE Wx) F hr hg hm hk hb (passAt tk) ha hdb he hpl) fun σ H Q h => by
  obtain ⟨μ, s, I, h⟩ := h
  refine ⟨μ, s, I, ?_⟩
  have h := Pst.bind h
  cases qa : as s with
  | bad => rw [qa] at h; exact h.elim
  | exc c xs s1 => rw [qa] at h; exact h
  | ok rs s1 =>
    rw [qa] at h
    intro μ1 H1 A us rus fus
    have h : Pst P X.K Wx μ s σ H (match boxes rs s1 with
      | some (ws, s2) => backC s2.ρ (call i ws s2.h)
      | none => .bad) _ := h μ1 H1 A
    cases q : boxes rs s1 with
    | none => rw [q] at h; exact h.elim
    | some y =>
      obtain ⟨ws, s2⟩ := y
      rw [q] at h
      obtain ⟨μ2, B, r⟩ := A.sim.boxesOk rus q
      refine run_of ?_ (B.aft A fus) r h
      rw [← Paired.length rus.all, hlen s rs s1 qa, hl]
theorem s_call0 (F : FnOk X.prog X.w X.K X.mg X.base (L2.CX X.prog X.w) k f fd ps (spF P X.K call i ps.length)) (tk : Takes X Wx) (hr : Room k X.A) (hg : Gl X x) (hm : X.mg x = some (.ref f)) (hk : PySem.W.keepIn X.K (.ref f) = true) (hb : Binds X.K fd ps [])
    (hl : ps.length = 0) (hdb : (x == ("__debug__" : PySem.Str)) = false := by decide) :
    PE X (.Call (.Name x p) [] [] pos) (tE P X.K Wx (callE call i asN)) := by
  have base : PE X (.Call (.Name x p) [] [] pos) fun σ H Q => spF P X.K call i ps.length [] H Q (WE Wx σ) := by
    refine ⟨fun pins s σ H Q I h => ?_⟩
    refine wpAny_Call_Name_kw (ld_glob I hg hm ?_ hdb)
    exact PySem.W.callWith_K0 I.kIn hk (run_fnS (E := WE Wx) (us := []) F hr hb (passAt tk σ) I .nil h)
  refine PE_imp base fun σ H Q h => ?_
  obtain ⟨μ, s, I, h⟩ := h
  have h : Pst P X.K Wx μ s σ H (backC s.ρ (call i [] s.h)) _ := h
  exact run_of hl.symm (.refl I) .nil h
theorem s_callH (F : FnOk X.prog X.w X.K X.mg X.base (L2.CX X.prog X.w) k f fd ps (spF P X.K call i ps.length)) (tk : Takes X Wx) (hr : Room k X.A) (hg : Gl X x) (hm : X.mg x = some (.ref f)) (hk : PySem.W.keepIn X.K (.ref f) = true) (hb : Binds X.K fd ps [])
    (hl : (e :: es).length = ps.length) (hlen : ∀ s rs s', as s = .ok rs s' → rs.length = (e :: es).length)
    (ha : PA X (e :: es) (tA P X.K Wx as)) (hdb : (x == ("__debug__" : PySem.Str)) = false := by decide) (he : starEach (e :: es) X.env = (false, eval e X.env) :: starEach es X.env := by rfl) (hpl : (backTo pos (starEach es X.env)).any (·.1) = false := by rfl) :
    PE X (.Call (.Name x p) (e :: es) [] pos) (tE P X.K Wx (callH call i as)) := PE_imp (pe_callS (E := WE Wx) F hr hg hm hk hb (passAt tk) ha hdb he hpl) fun σ H Q h => by
  obtain ⟨μ, s, I, h⟩ := h
  refine ⟨μ, s, I, ?_⟩
  have h := Pst.bind h
  cases qa : as s with
  | bad => rw [qa] at h; exact h.elim
  | exc c xs s1 => rw [qa] at h; exact h
  | ok rs s1 =>
    rw [qa] at h
    intro μ1 H1 A us rus fus
    have h : Pst P X.K Wx μ s σ H (match boxes rs s1 with
      | some (ws, s2) => callV call i ws s2
      | none => .bad) _ := h μ1 H1 A
    cases q : boxes rs s1 with
    | none => rw [q] at h; exact h.elim
    | some y =>
      obtain ⟨ws, s2⟩ := y
      rw [q] at h
      obtain ⟨μ2, B, r⟩ := A.sim.boxesOk rus q
      refine run_ofH ?_ (B.aft A fus) r h
      rw [← Paired.length rus.all, hlen s rs s1 qa, hl]
theorem s_callH0 (F : FnOk X.prog X.w X.K X.mg X.base (L2.CX X.prog X.w) k f fd ps (spF P X.K call i ps.length)) (tk : Takes X Wx) (hr : Room k X.A) (hg : Gl X x) (hm : X.mg x = some (.ref f)) (hk : PySem.W.keepIn X.K (.ref f) = true) (hb : Binds X.K fd ps [])
    (hl : ps.length = 0) (hdb : (x == ("__debug__" : PySem.Str)) = false := by decide) :
    PE X (.Call (.Name x p) [] [] pos) (tE P X.K Wx (callH call i asN)) := by
  have base : PE X (.Call (.Name x p) [] [] pos) fun σ H Q => spF P X.K call i ps.length [] H Q (WE Wx σ) := by
    refine ⟨fun pins s σ H Q I h => ?_⟩
    refine wpAny_Call_Name_kw (ld_glob I hg hm ?_ hdb)
    exact PySem.W.callWith_K0 I.kIn hk (run_fnS (E := WE Wx) (us := []) F hr hb (passAt tk σ) I .nil h)
  refine PE_imp base fun σ H Q h => ?_
  obtain ⟨μ, s, I, h⟩ := h
  have h : Pst P X.K Wx μ s σ H (callV call i [] s) _ := h
  exact run_ofH hl.symm (.refl I) .nil h
theorem PK_imp {X : Cx} {e : List Keyword} {t t' : TA} (h : PK X e t) (i : ∀ σ H Q, t' σ H Q → t σ H Q) : PK X e t' := ⟨fun pos pins s σ H Q I q => h.run pos pins s σ H Q I (i σ H Q q)⟩
theorem k_an : PK X [] (tA P X.K Wx asN) := PK_imp pk_nil fun σ H Q h => by
  obtain ⟨μ, s, I, h⟩ := h
  exact Pst.ok_self I h [] .nil (by simp [newsOf])
end
end Mn

end
section
set_option Elab.async false
set_option linter.all false
set_option maxRecDepth 100000
set_option maxHeartbeats 4000000
/-! MnRule11: more: keywords, two names at once, some built-in calls. -/
namespace Mn
open PySem PySem.Spec PyProof.Rows L2
section
variable {X : Cx} {P : Pr} {Wx : WX} {pos p p2 pos2 kpos : Pos} {a b e : PySem.Expr} {es : List PySem.Expr} {kws : List Keyword} {as : As} {ca cb : Ex} {call : Call} {i j k : Nat} {f : Addr} {fd : FuncData} {ps ks : List PySem.Str} {x y : PySem.Str} {perm : List Nat} {nm : Option PySem.Str}
/-! ### keywords -/
theorem tA_cons {K : PySem.W.Frag} {t : As} {σ : L2.St} {H : Hp} {Q : List V → Hp → Prop} (h : tA P K Wx (asC ca t) σ H Q) : tCons (tE P K Wx ca) (tA P K Wx t) σ H Q := by
  obtain ⟨μ, s, I, h⟩ := h
  refine ⟨μ, s, I, (Pst.bind h).mono fun r s1 μ1 H1 A h v rv fv => ?_⟩
  refine ⟨μ1, s1, A.sim, ((Pst.bind h).from A).mono fun rs s2 μ2 H2 B h vs rvs fvs => ?_⟩
  have rv2 := rv.aft A.sim B
  have key : ∀ a, isNew r v a → H a = none ∧ H1 a ≠ none := fun a ⟨⟨o, e1⟩, e2⟩ => by
    subst e1 e2
    obtain ⟨b, e3, q, _⟩ := rv
    cases e3
    exact ⟨fv, q.notup.2.2⟩
  refine h μ2 H2 (A.trans B) (v :: vs) (.cons rv2 rvs fun a ha hm => (key a ha).2 (fvs a hm)) fun a ha => ?_
  cases r with
  | new o =>
    obtain ⟨b, rfl, _, _⟩ := rv
    simp only [newsOf, List.mem_cons] at ha
    rcases ha with rfl | ha
    · exact fv
    · exact A.step.live a (fvs a ha)
  | w x => exact A.step.live a (fvs a (by simpa [newsOf] using ha))
  | slot i => exact A.step.live a (fvs a (by simpa [newsOf] using ha))
theorem k_ac {t : As} (ha : PE X e (tE P X.K Wx ca)) (hr : PK X kws (tA P X.K Wx t)) : PK X (⟨nm, e, kpos⟩ :: kws) (tA P X.K Wx (asC ca t)) := PK_imp (pk_cons ha hr) fun _ _ _ h => tA_cons h
/-- what a call by keywords binds -/
def KBd (K : PySem.W.Frag) (fd : FuncData) (ps ks : List PySem.Str) (perm : List Nat) : Prop := ∀ (s : Shared) (ws : List Value), K.In s.heap → ws.length = ks.length → BindsTo s fd ⟨[], ks.zip ws⟩ (ps.zip (perm.map fun i => ws.getD i .none))
theorem vals_getD {vs : List V} {us : List Value} (r : Vals vs us) (i : Nat) : RelV (vs.getD i .non) (us.getD i .none) := by
  rw [List.getD_eq_getElem?_getD, List.getD_eq_getElem?_getD]
  cases e : vs[i]? with
  | none =>
    rw [List.getElem?_eq_none_iff.mpr (by have := List.getElem?_eq_none_iff.mp e; rw [← r.length]; exact this)]
    rfl
  | some v =>
    obtain ⟨u, hu, ru⟩ := r.get e
    rw [hu]
    exact ru
theorem vals_perm {vs : List V} {us : List Value} (r : Vals vs us) : ∀ perm : List Nat, Vals (perm.map fun i => vs.getD i .non) (perm.map fun i => us.getD i .none)
  | [] => .nil
  | i :: perm => .cons (vals_getD r i) (vals_perm r perm)
theorem simWs_getD {K : PySem.W.Frag} {μ : List Addr} {H : Hp} {ws : List W} {vs : List V} (r : SimWs K μ H ws vs) (i : Nat) : SimW K μ H (ws.getD i (.d .non)) (vs.getD i .non) := by
  rw [List.getD_eq_getElem?_getD, List.getD_eq_getElem?_getD]
  cases e : ws[i]? with
  | none =>
    rw [List.getElem?_eq_none_iff.mpr (by have := List.getElem?_eq_none_iff.mp e; rw [← SimWs_len r]; exact this)]
    exact .d .non
  | some v =>
    obtain ⟨u, hu, ru⟩ := SimWs_get r e
    rw [hu]
    exact ru
theorem simWs_perm {K : PySem.W.Frag} {μ : List Addr} {H : Hp} {ws : List W} {vs : List V} (r : SimWs K μ H ws vs) : ∀ perm : List Nat, SimWs K μ H (perm.map fun i => ws.getD i (.d .non)) (perm.map fun i => vs.getD i .non)
  | [] => .nil
  | i :: perm => .cons (simWs_getD r i) (simWs_perm r perm)
theorem s_callK (F : FnOk X.prog X.w X.K X.mg X.base (L2.CX X.prog X.w) k f fd ps (spF P X.K call i ps.length)) (tk : Takes X Wx) (hr : Room k X.A) (hg : Gl X x) (hm : X.mg x = some (.ref f)) (hk : PySem.W.keepIn X.K (.ref f) = true) (hb : KBd X.K fd ps ks perm)
    (hl : perm.length = ps.length) (hl2 : ks.length = perm.length) (ha : PK X kws (tA P X.K Wx as)) (hdb : (x == ("__debug__" : PySem.Str)) = false := by decide)
    (hall : (backToKw pos (keywordEach kws X.env)).all (·.1.isSome) = true := by rfl) (hks : (backToKw pos (keywordEach kws X.env)).filterMap (·.1) = ks := by rfl)
    (hpl : ((backTo pos (starEach [] X.env)).any (·.1) || (backToKw pos (keywordEach kws X.env)).any (·.1.isNone)) = false := by rfl) :
    PE X (.Call (.Name x p) [] kws pos) (tE P X.K Wx (callK call i perm as)) := by
  have base : PE X (.Call (.Name x p) [] kws pos) fun σ H Q => tA P X.K Wx as σ H fun vs H1 => vs.length = perm.length ∧ spF P X.K call i ps.length (perm.map fun i => vs.getD i .non) H1 Q (WE Wx σ) := by
    refine ⟨fun pins s σ H Q I h => ?_⟩
    refine wpAny_Call_Name_kw (ld_glob I hg hm ?_ hdb)
    refine PySem.W.callWith_KW0 (h₀ := X.base) I.ok.mod.kin hk hall ?_ hpl
    refine thn (ha.run pos pins s σ H _ I h) fun ws s2 ⟨zs, H2, I2, rz, l1, q2⟩ => ⟨I2.kIn, ?_⟩
    rw [hks]
    have lw : ws.length = ks.length := by rw [← rz.length, l1, hl2]
    refine wpAny_call (codeAny_mono (F.run X.A X.stack s2 H2 ⟨[], ks.zip ws⟩ (perm.map fun i => ws.getD i .none) (perm.map fun i => zs.getD i .non) Q (WE Wx σ) hr I2.env0 (hb s2 ws I2.kIn lw) (vals_perm rz perm) q2) fun r s' hq => ?_)
    cases r with
    | error e => exact passAt tk σ pins H2 s2 e s' I2 hq
    | ok fl =>
      cases fl with
      | ret u => exact I2.after hq
      | next => exact False.elim hq
      | brk => exact False.elim hq
      | cont => exact False.elim hq
  refine PE_imp base fun σ H Q h => ?_
  obtain ⟨μ, s, I, h⟩ := h
  refine ⟨μ, s, I, ?_⟩
  have h := Pst.bind h
  cases qa : as s with
  | bad => rw [qa] at h; exact h.elim
  | exc c xs s1 => rw [qa] at h; exact h
  | ok rs s1 =>
    rw [qa] at h
    intro μ1 H1 A us rus fus
    have h : Pst P X.K Wx μ s σ H (match boxes rs s1 with
      | some (ws, s2) => if ws.length = perm.length then backC s2.ρ (call i (perm.map fun i => ws.getD i (.d .non)) s2.h) else .bad
      | none => .bad) _ := h μ1 H1 A
    cases q : boxes rs s1 with
    | none => rw [q] at h; exact h.elim
    | some y =>
      obtain ⟨ws, s2⟩ := y
      rw [q] at h
      obtain ⟨μ2, B, r⟩ := A.sim.boxesOk rus q
      by_cases hw : ws.length = perm.length
      · simp only [hw, if_true] at h
        exact ⟨by rw [← SimWs_len r]; exact hw, run_of (by rw [List.length_map, hl]) (B.aft A fus) (simWs_perm r perm) h⟩
      · simp only [hw, if_false] at h
        exact h.elim
theorem s_callHK (F : FnOk X.prog X.w X.K X.mg X.base (L2.CX X.prog X.w) k f fd ps (spF P X.K call i ps.length)) (tk : Takes X Wx) (hr : Room k X.A) (hg : Gl X x) (hm : X.mg x = some (.ref f)) (hk : PySem.W.keepIn X.K (.ref f) = true) (hb : KBd X.K fd ps ks perm)
    (hl : perm.length = ps.length) (hl2 : ks.length = perm.length) (ha : PK X kws (tA P X.K Wx as)) (hdb : (x == ("__debug__" : PySem.Str)) = false := by decide)
    (hall : (backToKw pos (keywordEach kws X.env)).all (·.1.isSome) = true := by rfl) (hks : (backToKw pos (keywordEach kws X.env)).filterMap (·.1) = ks := by rfl)
    (hpl : ((backTo pos (starEach [] X.env)).any (·.1) || (backToKw pos (keywordEach kws X.env)).any (·.1.isNone)) = false := by rfl) :
    PE X (.Call (.Name x p) [] kws pos) (tE P X.K Wx (callHK call i perm as)) := by
  have base : PE X (.Call (.Name x p) [] kws pos) fun σ H Q => tA P X.K Wx as σ H fun vs H1 => vs.length = perm.length ∧ spF P X.K call i ps.length (perm.map fun i => vs.getD i .non) H1 Q (WE Wx σ) := by
    refine ⟨fun pins s σ H Q I h => ?_⟩
    refine wpAny_Call_Name_kw (ld_glob I hg hm ?_ hdb)
    refine PySem.W.callWith_KW0 (h₀ := X.base) I.ok.mod.kin hk hall ?_ hpl
    refine thn (ha.run pos pins s σ H _ I h) fun ws s2 ⟨zs, H2, I2, rz, l1, q2⟩ => ⟨I2.kIn, ?_⟩
    rw [hks]
    have lw : ws.length = ks.length := by rw [← rz.length, l1, hl2]
    refine wpAny_call (codeAny_mono (F.run X.A X.stack s2 H2 ⟨[], ks.zip ws⟩ (perm.map fun i => ws.getD i .none) (perm.map fun i => zs.getD i .non) Q (WE Wx σ) hr I2.env0 (hb s2 ws I2.kIn lw) (vals_perm rz perm) q2) fun r s' hq => ?_)
    cases r with
    | error e => exact passAt tk σ pins H2 s2 e s' I2 hq
    | ok fl =>
      cases fl with
      | ret u => exact I2.after hq
      | next => exact False.elim hq
      | brk => exact False.elim hq
      | cont => exact False.elim hq
  refine PE_imp base fun σ H Q h => ?_
  obtain ⟨μ, s, I, h⟩ := h
  refine ⟨μ, s, I, ?_⟩
  have h := Pst.bind h
  cases qa : as s with
  | bad => rw [qa] at h; exact h.elim
  | exc c xs s1 => rw [qa] at h; exact h
  | ok rs s1 =>
    rw [qa] at h
    intro μ1 H1 A us rus fus
    have h : Pst P X.K Wx μ s σ H (match boxes rs s1 with
      | some (ws, s2) => if ws.length = perm.length then callV call i (perm.map fun i => ws.getD i (.d .non)) s2 else .bad
      | none => .bad) _ := h μ1 H1 A
    cases q : boxes rs s1 with
    | none => rw [q] at h; exact h.elim
    | some y =>
      obtain ⟨ws, s2⟩ := y
      rw [q] at h
      obtain ⟨μ2, B, r⟩ := A.sim.boxesOk rus q
      by_cases hw : ws.length = perm.length
      · simp only [hw, if_true] at h
        exact ⟨by rw [← SimWs_len r]; exact hw, run_ofH (by rw [List.length_map, hl]) (B.aft A fus) (simWs_perm r perm) h⟩
      · simp only [hw, if_false] at h
        exact h.elim
/-! ### two names at once -/
theorem c_par {px py pt : Pos} {kt k2 pt2} (hc : X.calm = true) (hN : X.N.Nodup) (hi : X.N[i]? = some x) (hj : X.N[j]? = some y) (hij : i ≠ j) (hx : X.env.scope.names.lookup x = some .local) (hy : X.env.scope.names.lookup y = some .local) (ha : PA X [a, b] (tA P X.K Wx as))
    (hw : swappedStores [.Tuple [.Name x px, .Name y py] kt pt] (.Tuple [a, b] k2 pt2) X.env = pure (some [x, y]))
    (hs : swapsWithSole [.Tuple [.Name x px, .Name y py] kt pt] (.Tuple [a, b] k2 pt2) pos.line X.env = pure false := by rfl) :
    PS X (.Assign [.Tuple [.Name x px, .Name y py] kt pt] (.Tuple [a, b] k2 pt2) pos) (tS P X.K Wx (parS i j as)) := PS_imp (ps_par hc hN hi hj hij hx hy ha hw hs) fun D σ H h => by
  obtain ⟨μ, s, I, h⟩ := h
  refine ⟨μ, s, I, (PstS.res h).mono fun rs s1 μ1 H1 A h vs rvs fvs => ?_⟩
  cases q : boxes rs s1 with
  | none => rw [q] at h; exact h.elim
  | some z =>
    obtain ⟨ws, s2⟩ := z
    rw [q] at h
    obtain ⟨μ2, B, r⟩ := A.sim.boxesOk rvs q
    have A2 := B.aft A fvs
    match ws, vs, r, h with
    | [], _, _, h => exact h.elim
    | [_], _, _, h => exact h.elim
    | _ :: _ :: _ :: _, _, _, h => exact h.elim
    | [w1, w2], _, .cons r1 (.cons r2 .nil), h =>
      rename_i v1 v2
      refine ⟨v1, v2, rfl, ?_⟩
      have h : PstS P X.K Wx μ s σ H (match asg i (.w w1) s2 with
        | some s3 => ofOpt (asg j (.w w2) s3)
        | none => .bad) D := h
      cases e1 : asg i (.w w1) s2 with
      | none => rw [e1] at h; exact h.elim
      | some s3 =>
        rw [e1] at h
        simp only at h
        cases e2 : asg j (.w w2) s3 with
        | none => rw [e2] at h; exact h.elim
        | some s4 =>
          rw [e2] at h
          obtain ⟨μ3, A3⟩ := Sim.asgOk (r := .w w1) (AftS.refl A2.sim) r1 trivial e1
          obtain ⟨μ4, A4⟩ := Sim.asgOk (r := .w w2) (A2.toS.trans A3) (SimW.mono Tups.refl A3.pre r2) trivial e2
          exact h μ4 _ H1 A4
/-! ### built-in calls -/
theorem simWs_rev {K : PySem.W.Frag} {μ : List Addr} {H : Hp} : ∀ {ws : List W} {vs : List V}, SimWs K μ H ws vs → SimWs K μ H ws.reverse vs.reverse
  | _, _, .nil => .nil
  | _, _, .cons r t => by rw [List.reverse_cons, List.reverse_cons]; exact (simWs_rev t).snoc r
theorem s_rev (hc : X.calm = true) (hg : Gl X "tuple") (hm : X.mg "tuple" = none) (hg2 : Gl X "reversed") (hm2 : X.mg "reversed" = none) (ha : PE X a (tE P X.K Wx ca))
    (hs : starEach [a] X.env = (false, eval a X.env) :: starEach [] X.env := by rfl)
    (hs2 : starEach [.Call (.Name "reversed" p2) [a] [] pos2] X.env = (false, eval (.Call (.Name "reversed" p2) [a] [] pos2) X.env) :: starEach [] X.env := by rfl) :
    PE X (.Call (.Name "tuple" p) [.Call (.Name "reversed" p2) [a] [] pos2] [] pos) (tE P X.K Wx (op1 revV ca)) := PE_imp (RT.pe_tupRev hc hg hm hg2 hm2 ha hs hs2) fun σ H Q h => by
  obtain ⟨μ, s, I, h⟩ := h
  refine ⟨μ, s, I, (Pst.bind h).mono fun x s1 μ1 H1 A h v1 r1 f1 => ?_⟩
  cases q : revV s1 x with
  | none => rw [q] at h; exact h.elim
  | some r =>
    rw [q] at h
    unfold revV at q
    split at q <;> first | (cases q; done) | skip
    rename_i ws e
    cases q
    obtain ⟨a', rfl, ⟨vs, e2, rs⟩, _⟩ := A.sim.obj r1 e
    refine ⟨a', vs, rfl, .inl (.inl e2), fun q hq => ?_⟩
    have rr : SimWs X.K μ1 H1 ws.reverse vs.reverse := simWs_rev rs
    obtain ⟨B, r3⟩ := newTup A.sim rr hq
    exact h μ1 _ (A.trans B) _ r3 trivial
theorem s_lrng (hc : X.calm = true) (hg : Gl X "list") (hm : X.mg "list" = none) (hg2 : Gl X "range") (hm2 : X.mg "range" = none) (ha : PE X a (tE P X.K Wx ca))
    (hs : starEach [a] X.env = (false, eval a X.env) :: starEach [] X.env := by rfl)
    (hs2 : starEach [.Call (.Name "range" p2) [a] [] pos2] X.env = (false, eval (.Call (.Name "range" p2) [a] [] pos2) X.env) :: starEach [] X.env := by rfl) :
    PE X (.Call (.Name "list" p) [.Call (.Name "range" p2) [a] [] pos2] [] pos) (tE P X.K Wx (op1 lrngV ca)) := PE_imp (pe_listRg hc hg hm (prg_1 hg2 hm2 ha hs) hs2) fun σ H Q h => by
  obtain ⟨μ, s, I, h⟩ := h
  refine ⟨μ, s, I, (Pst.bind h).mono fun x s1 μ1 H1 A h v1 r1 f1 => ?_⟩
  cases q : lrngV s1 x with
  | none => rw [q] at h; exact h.elim
  | some r =>
    rw [q] at h
    unfold lrngV at q
    split at q <;> first | (cases q; done) | skip
    rename_i n
    split at q <;> cases q
    rename_i hn
    cases rep_int r1
    refine ⟨n, rfl, ⟨by decide, by decide, by omega, by omega, by omega⟩, fun q hq => ?_⟩
    have rr : SimWs X.K μ1 H1 ((List.range n.toNat).map fun i : Nat => W.d (.int (i : Int))) (rgV 0 n) := by
      have key : ∀ l : List Nat, SimWs X.K μ1 H1 (l.map fun i : Nat => W.d (.int (i : Int))) (l.map fun i : Nat => V.int (i : Int)) := fun l => by
        induction l with
        | nil => exact .nil
        | cons i l ih => exact .cons (.d (.int _)) ih
      have e : rgV 0 n = (List.range n.toNat).map fun i : Nat => V.int (i : Int) := by
        unfold rgV
        simp
      rw [e]
      exact key _
    obtain ⟨B, r3⟩ := newLst A.sim rr hq
    exact h μ1 _ (A.trans B) _ r3 (A.step.live q hq)
theorem str_S {K : PySem.W.Frag} : CallS P K (fun xs H Q => ∃ i, xs = [.int i] ∧ i.natAbs.log2 < 1920 ∧ Q (.str (toString i)) H) strV := fun μ s σ H x v rr Q I h1 e h => by
  unfold strV at e
  split at e <;> first | (cases e; done) | skip
  rename_i i
  split at e <;> cases e
  rename_i hi
  cases rep_int h1
  refine ⟨i, rfl, hi, ?_⟩
  have e2 : (toString i : PySem.Str) = sig ((toString i : String).toList.map Char.toNat) := PySem.Str.ofString_eq_toList _
  rw [e2]
  exact h μ H _ (.refl I) (SimW.d (.str _ fun c hc => by
    obtain ⟨ch, _, rfl⟩ := List.mem_map.mp hc
    have := ch.valid
    unfold UInt32.isValidChar Nat.isValidChar at this
    show ch.val.toNat < _
    omega)) trivial
/-! ### in a tuple of anything -/
def rInDT (K : PySem.W.Frag) (neg : Bool) : R2 := fun x y H Q => ∃ d ds, Dp K H x d ∧ Dp K H y (.tuple ds) ∧ d.canLay0 = true ∧ PyData.canLayAll0 ds = true ∧ min (PyData.depthAll ds) d.depth ≤ 60 ∧ Q (.bl (if neg then !(ds.any fun z => PyData.eqv z d) else ds.any fun z => PyData.eqv z d)) H
theorem op_inDT (hu : X.A.units + 64 < cLine) : OpR X (compareOp .In) (rInDT X.K false) := by
  intro pins s σ H x y v u Q I rx ry h
  obtain ⟨d, ds, hd, he, sd, se, m, q⟩ := h
  obtain ⟨as, r1⟩ := Dp.reads I d x v hd rx
  obtain ⟨bs, r2⟩ := Dp.reads I (.tuple ds) y u he ry
  exact SeqAt.in_tuple_reads r2 r1 se sd (by omega) ⟨.bl _, H, I, rfl, q⟩
theorem op_notInDT (hu : X.A.units + 64 < cLine) : OpR X (compareOp .NotIn) (rInDT X.K true) := by
  intro pins s σ H x y v u Q I rx ry h
  obtain ⟨d, ds, hd, he, sd, se, m, q⟩ := h
  obtain ⟨as, r1⟩ := Dp.reads I d x v hd rx
  obtain ⟨bs, r2⟩ := Dp.reads I (.tuple ds) y u he ry
  exact SeqAt.notIn_tuple_reads r2 r1 se sd (by omega) ⟨.bl _, H, I, rfl, q⟩
theorem any_py (x : D) : ∀ ys : List D, ((D.pys ys).any fun z => PyData.eqv z x.py) = inB x ys
  | [] => rfl
  | y :: ys => by
    show (PyData.eqv y.py x.py || (D.pys ys).any fun z => PyData.eqv z x.py) = (D.eqv y x || inB x ys)
    rw [any_py x ys, D.eqv_py]
theorem inDT_S {K : PySem.W.Frag} {neg : Bool} : OpS P K (rInDT K neg) (inDV neg) := fun μ s σ H x y v1 v2 r Q I h1 h2 e h => by
  unfold inDV at e
  split at e <;> first | (cases e; done) | skip
  rename_i x ys
  split at e <;> cases e
  rename_i hm
  cases (show SimW K μ H (.d x) v1 from h1) with
  | d q1 =>
    cases (show SimW K μ H (.d (.tup ys)) v2 from h2) with
    | d q2 =>
      obtain ⟨d1, s1⟩ := q1.dp
      obtain ⟨d2, s2⟩ := q2.dp
      refine ⟨_, _, d1, d2, s1, s2, by rw [D.pys_depth, D.py_depth]; exact hm, ?_⟩
      rw [any_py]
      exact h μ H _ (.refl I) rep_bR trivial
theorem s_inD (hu : X.A.units + 64 < cLine) (ha : PE X a (tE P X.K Wx ca)) (hb : PE X b (tE P X.K Wx cb)) (hm : behindInMarks .In b = false) : PE X (.Compare a [.In] [b] pos) (tE P X.K Wx (op2 (inDV false) ca cb)) := s_cmp (op_inDT hu) inDT_S ha hb hm
theorem s_notinD (hu : X.A.units + 64 < cLine) (ha : PE X a (tE P X.K Wx ca)) (hb : PE X b (tE P X.K Wx cb)) (hm : behindInMarks .NotIn b = false) : PE X (.Compare a [.NotIn] [b] pos) (tE P X.K Wx (op2 (inDV true) ca cb)) := s_cmp (op_notInDT hu) inDT_S ha hb hm
/-! ### len(set(x)) -/
theorem dist_len : ∀ (ns l : List Int), l.Nodup → (∀ k, k ∈ l ↔ k ∈ ns) → l.length = dist ns
  | [], l, _, h => by
    cases l with
    | nil => rfl
    | cons x l => exact absurd ((h x).mp List.mem_cons_self) (by simp)
  | x :: xs, l, hn, h => by
    unfold dist
    by_cases hx : x ∈ xs
    · rw [if_pos hx]
      exact dist_len xs l hn fun k => (h k).trans ⟨fun q => by
        rcases List.mem_cons.mp q with q | q
        · subst q; exact hx
        · exact q, fun q => List.mem_cons_of_mem _ q⟩
    · rw [if_neg hx]
      have hm : x ∈ l := (h x).mpr List.mem_cons_self
      have e := List.length_erase_of_mem hm
      have ih := dist_len xs (l.erase x) (hn.erase x) fun k => by
        rw [hn.mem_erase_iff, h k, List.mem_cons]
        constructor
        · rintro ⟨h1, h2⟩; exact h2.resolve_left h1
        · intro h1; exact ⟨fun z => hx (z ▸ h1), .inr h1⟩
      have := List.length_pos_of_mem hm
      omega
theorem s_lset (hc : X.calm = true) (hg : Gl X "len") (hm : X.mg "len" = none) (hg2 : Gl X "set") (hm2 : X.mg "set" = none) (ha : PE X a (tE P X.K Wx ca))
    (na : starEach [a] X.env = (false, eval a X.env) :: starEach [] X.env := by rfl) : PE X (.Call (.Name "len" p) [.Call (.Name "set" p2) [a] [] pos2] [] pos) (tE P X.K Wx (op1 lsetV ca)) := by
  have base : PE X (.Call (.Name "len" p) [.Call (.Name "set" p2) [a] [] pos2] [] pos) fun σ H Q => tE P X.K Wx ca σ H fun x H1 => ∃ (l : Addr) (ns : List Int), x = V.ref l ∧ SqT X.K H1 l (ns.map V.int) ∧ ns.length + 1 < 4096 ∧ Q (.int (dist ns : Nat)) H1 := by
    refine ⟨fun pins s σ H Q I h => ?_⟩
    refine Call_ (ld_blt I hg hm PySem.boot_len ?_)
    refine PyProof.Rows.callWith_builtin1 (PyProof.Rows.args_cons ?_ rfl) rfl rfl
    refine Call_ (ld_blt I hg2 hm2 PyProof.Rows.boot_set ?_)
    refine PyProof.Rows.callWith_type1 (PyProof.Rows.args_cons (thn (ha.run pins s σ H _ I h) fun v s1 ⟨x, H1, I1, r1, q1⟩ => PyProof.Rows.args_nil ?_) na) na rfl
    obtain ⟨l, ns, rfl, hq, h1, q1⟩ := q1
    cases r1
    obtain ⟨its, r, pl, hz⟩ := I1.tuple hq
    refine call_set_tupI ns (I1.ok.hd hc) pl (by simpa using r.ints) (by unfold scanBound; omega) fun h' tk c hS hcl hk => ?_
    refine PyProof.Rows.args_nil ?_
    obtain ⟨o, es, ep, t, ho, hex, hd, _, hnd, hmem, _, hf, hn, _⟩ := hS
    have I2 : Inv X pins σ H1 { s1 with heap := h', toks := tk } := I1.kept fun b o e => hk b o e
    have hc2 : c = dist ns := by
      rw [← dist_len ns (es.toList.map keyOf) hnd fun k => by rw [← hmem k]; simp, List.length_map, Array.length_toList, hn]
    refine call_len_set ho hex hd hf (by rw [hn] <;> omega) ⟨.int (dist ns : Nat), H1, I2.tok _, ⟨_, by rw [hn, hc2]⟩, q1⟩
  refine PE_imp base fun σ H Q h => ?_
  obtain ⟨μ, s, I, h⟩ := h
  refine ⟨μ, s, I, (Pst.bind h).mono fun x s1 μ1 H1 A h v1 r1 f1 => ?_⟩
  cases q : lsetV s1 x with
  | none => rw [q] at h; exact h.elim
  | some r =>
    rw [q] at h
    unfold lsetV at q
    split at q <;> first | (cases q; done) | skip
    rename_i xs
    split at q <;> first | (cases q; done) | skip
    rename_i ns e
    split at q <;> cases q
    rename_i hn
    cases (show SimW X.K μ1 H1 (.d (.tup xs)) v1 from r1) with
    | d q =>
      cases q with
      | @tup l vs _ hT rs => exact ⟨l, ns, rfl, by rw [← RepDs_intD rs e]; exact hT, hn, h μ1 H1 A _ rep_iR trivial⟩
end
end Mn

end
section
set_option Elab.async false
set_option linter.all false
set_option maxRecDepth 100000
set_option maxHeartbeats 4000000
/-! MnUse: the rules, ready for printing. -/
namespace Mn
open PySem PySem.Spec PyProof.Rows L2
theorem Room.h64 {k : Nat} {A : Around} (r : Room k A) : A.units + 64 < cLine := by have := r.un; omega
theorem Room.h1 {k : Nat} {A : Around} (r : Room k A) : A.units + 1 < cLine := by have := r.un; omega
def AsLen (n : Nat) (as : As) : Prop := ∀ s rs s', as s = .ok rs s' → rs.length = n
theorem al0 : AsLen 0 asN := fun s rs s' e => by cases e; rfl
theorem al1 {n : Nat} {a : Ex} {r : As} (h : AsLen n r) : AsLen (n + 1) (asC a r) := fun s rs s' e => by
  unfold asC at e
  cases q : a s with
  | bad => rw [q] at e; cases e
  | exc _ _ _ => rw [q] at e; cases e
  | ok x s1 =>
    rw [q] at e
    simp only [Res.bind_ok] at e
    cases q2 : r s1 with
    | bad => rw [q2] at e; cases e
    | exc _ _ _ => rw [q2] at e; cases e
    | ok xs s2 => rw [q2] at e; cases e; simp [h s1 xs _ q2]
section
variable {X : Cx} {P : Pr} {Wx : WX} {pos p p2 apos cpos : Pos} {a b c e o : PySem.Expr} {es : List PySem.Expr} {ca cb cc co : Ex} {ct : As}
theorem s_add (ha : PE X a (tE P X.K Wx ca)) (hb : PE X b (tE P X.K Wx cb)) : PE X (.BinOp a .Add b pos) (tE P X.K Wx (op2 addV ca cb)) := s_op op_add4 add_S ha hb
theorem s_sub (ha : PE X a (tE P X.K Wx ca)) (hb : PE X b (tE P X.K Wx cb)) : PE X (.BinOp a .Sub b pos) (tE P X.K Wx (op2 subV ca cb)) := s_op op_subC sub_S ha hb
theorem s_mul (ha : PE X a (tE P X.K Wx ca)) (hb : PE X b (tE P X.K Wx cb)) : PE X (.BinOp a .Mult b pos) (tE P X.K Wx (op2 mulV ca cb)) := s_op op_mul4 mul_S ha hb
theorem s_mod (ha : PE X a (tE P X.K Wx ca)) (hb : PE X b (tE P X.K Wx cb)) : PE X (.BinOp a .Mod b pos) (tE P X.K Wx (op2 modV ca cb)) := s_op op_mod mod_S ha hb
theorem s_div (ha : PE X a (tE P X.K Wx ca)) (hb : PE X b (tE P X.K Wx cb)) : PE X (.BinOp a .FloorDiv b pos) (tE P X.K Wx (op2 divV ca cb)) := s_op op_fdivW div_S ha hb
theorem s_pow (ha : PE X a (tE P X.K Wx ca)) (hb : PE X b (tE P X.K Wx cb)) : PE X (.BinOp a .Pow b pos) (tE P X.K Wx (op2 powV ca cb)) := s_op op_pow pow_S ha hb
theorem s_shl (ha : PE X a (tE P X.K Wx ca)) (hb : PE X b (tE P X.K Wx cb)) : PE X (.BinOp a .LShift b pos) (tE P X.K Wx (op2 shlV ca cb)) := s_op op_shl shl_S ha hb
theorem s_lt (ha : PE X a (tE P X.K Wx ca)) (hb : PE X b (tE P X.K Wx cb)) : PE X (.Compare a [.Lt] [b] pos) (tE P X.K Wx (op2 ltV ca cb)) := s_cmp op_lt (cmpI_S fun _ _ => rfl) ha hb (nomark _)
theorem s_le (ha : PE X a (tE P X.K Wx ca)) (hb : PE X b (tE P X.K Wx cb)) : PE X (.Compare a [.LtE] [b] pos) (tE P X.K Wx (op2 leV ca cb)) := s_cmp op_le (cmpI_S fun _ _ => rfl) ha hb (nomark _)
theorem s_gt (ha : PE X a (tE P X.K Wx ca)) (hb : PE X b (tE P X.K Wx cb)) : PE X (.Compare a [.Gt] [b] pos) (tE P X.K Wx (op2 gtV ca cb)) := s_cmp op_gt (cmpI_S fun _ _ => rfl) ha hb (nomark _)
theorem s_ge (ha : PE X a (tE P X.K Wx ca)) (hb : PE X b (tE P X.K Wx cb)) : PE X (.Compare a [.GtE] [b] pos) (tE P X.K Wx (op2 geV ca cb)) := s_cmp op_ge (cmpI_S fun _ _ => rfl) ha hb (nomark _)
theorem s_eq (hu : X.A.units + 64 < cLine) (ha : PE X a (tE P X.K Wx ca)) (hb : PE X b (tE P X.K Wx cb)) : PE X (.Compare a [.Eq] [b] pos) (tE P X.K Wx (op2 eqV ca cb)) := s_cmp (op_eqD2 hu) eq_S ha hb (nomark _)
theorem s_ne (hu : X.A.units + 64 < cLine) (ha : PE X a (tE P X.K Wx ca)) (hb : PE X b (tE P X.K Wx cb)) : PE X (.Compare a [.NotEq] [b] pos) (tE P X.K Wx (op2 neV ca cb)) := s_cmp (op_neD2 hu) ne_S ha hb (nomark _)
theorem s_is (ha : PE X a (tE P X.K Wx ca)) (hb : PE X b (tE P X.K Wx cb)) : PE X (.Compare a [.Is] [b] pos) (tE P X.K Wx (op2 isV ca cb)) := s_cmp op_isN is_S ha hb (nomark _)
theorem s_isnt (ha : PE X a (tE P X.K Wx ca)) (hb : PE X b (tE P X.K Wx cb)) : PE X (.Compare a [.IsNot] [b] pos) (tE P X.K Wx (op2 isntV ca cb)) := s_cmp op_notN isnt_S ha hb (nomark _)
theorem t_lt (ha : PE X a (tE P X.K Wx ca)) (hb : PE X b (tE P X.K Wx cb)) : PT X (.Compare a [.Lt] [b] pos) (tT P X.K Wx (tst (op2 ltV ca cb))) := t_cmp op_lt (cmpI_S fun _ _ => rfl) bo_cmpI ha hb (nomark _)
theorem t_le (ha : PE X a (tE P X.K Wx ca)) (hb : PE X b (tE P X.K Wx cb)) : PT X (.Compare a [.LtE] [b] pos) (tT P X.K Wx (tst (op2 leV ca cb))) := t_cmp op_le (cmpI_S fun _ _ => rfl) bo_cmpI ha hb (nomark _)
theorem t_gt (ha : PE X a (tE P X.K Wx ca)) (hb : PE X b (tE P X.K Wx cb)) : PT X (.Compare a [.Gt] [b] pos) (tT P X.K Wx (tst (op2 gtV ca cb))) := t_cmp op_gt (cmpI_S fun _ _ => rfl) bo_cmpI ha hb (nomark _)
theorem t_ge (ha : PE X a (tE P X.K Wx ca)) (hb : PE X b (tE P X.K Wx cb)) : PT X (.Compare a [.GtE] [b] pos) (tT P X.K Wx (tst (op2 geV ca cb))) := t_cmp op_ge (cmpI_S fun _ _ => rfl) bo_cmpI ha hb (nomark _)
theorem t_eq (hu : X.A.units + 64 < cLine) (ha : PE X a (tE P X.K Wx ca)) (hb : PE X b (tE P X.K Wx cb)) : PT X (.Compare a [.Eq] [b] pos) (tT P X.K Wx (tst (op2 eqV ca cb))) := t_cmp (op_eqD2 hu) eq_S bo_eq ha hb (nomark _)
theorem t_ne (hu : X.A.units + 64 < cLine) (ha : PE X a (tE P X.K Wx ca)) (hb : PE X b (tE P X.K Wx cb)) : PT X (.Compare a [.NotEq] [b] pos) (tT P X.K Wx (tst (op2 neV ca cb))) := t_cmp (op_neD2 hu) ne_S bo_ne ha hb (nomark _)
theorem t_is (ha : PE X a (tE P X.K Wx ca)) (hb : PE X b (tE P X.K Wx cb)) : PT X (.Compare a [.Is] [b] pos) (tT P X.K Wx (tst (op2 isV ca cb))) := t_cmp op_isN is_S bo_is ha hb (nomark _)
theorem t_isnt (ha : PE X a (tE P X.K Wx ca)) (hb : PE X b (tE P X.K Wx cb)) : PT X (.Compare a [.IsNot] [b] pos) (tT P X.K Wx (tst (op2 isntV ca cb))) := t_cmp op_notN isnt_S bo_isnt ha hb (nomark _)
theorem bo_inD {n : Bool} : Bo (inDV n) := fun s x y r e => by
  unfold inDV at e
  split at e <;> first | (cases e; done) | skip
  split at e <;> cases e
  exact ⟨_, rfl⟩
theorem t_inD (hu : X.A.units + 64 < cLine) (ha : PE X a (tE P X.K Wx ca)) (hb : PE X b (tE P X.K Wx cb)) (hm : behindInMarks .In b = false) : PT X (.Compare a [.In] [b] pos) (tT P X.K Wx (tst (op2 (inDV false) ca cb))) := t_cmp (op_inDT hu) inDT_S bo_inD ha hb hm
theorem t_notinD (hu : X.A.units + 64 < cLine) (ha : PE X a (tE P X.K Wx ca)) (hb : PE X b (tE P X.K Wx cb)) (hm : behindInMarks .NotIn b = false) : PT X (.Compare a [.NotIn] [b] pos) (tT P X.K Wx (tst (op2 (inDV true) ca cb))) := t_cmp (op_notInDT hu) inDT_S bo_inD ha hb hm
theorem s_len (hg : Gl X "len") (hm : X.mg "len" = none) (ha : PE X a (tE P X.K Wx ca)) (he : starEach [a] X.env = (false, eval a X.env) :: starEach [] X.env := by rfl) : PE X (.Call (.Name "len" p) [a] [] pos) (tE P X.K Wx (op1 lenV ca)) := s_callB cr_lenA len_S hg hm PySem.boot_len ha (by decide) (by decide) he
theorem s_abs (hg : Gl X "abs") (hm : X.mg "abs" = none) (ha : PE X a (tE P X.K Wx ca)) (he : starEach [a] X.env = (false, eval a X.env) :: starEach [] X.env := by rfl) : PE X (.Call (.Name "abs" p) [a] [] pos) (tE P X.K Wx (op1 absV ca)) := s_callB call_abs abs_S hg hm PyProof.Rows.boot_abs ha (by decide) (by decide) he
theorem s_all (hc : X.calm = true) (hg : Gl X "all") (hm : X.mg "all" = none) (ha : PE X a (tE P X.K Wx ca)) (he : starEach [a] X.env = (false, eval a X.env) :: starEach [] X.env := by rfl) : PE X (.Call (.Name "all" p) [a] [] pos) (tE P X.K Wx (op1 allV ca)) := s_callB (cr_all hc) all_S hg hm PyProof.Rows.boot_all ha (by decide) (by decide) he
theorem s_any (hc : X.calm = true) (hg : Gl X "any") (hm : X.mg "any" = none) (ha : PE X a (tE P X.K Wx ca)) (he : starEach [a] X.env = (false, eval a X.env) :: starEach [] X.env := by rfl) : PE X (.Call (.Name "any" p) [a] [] pos) (tE P X.K Wx (op1 anyV ca)) := s_callB (cr_any hc) any_S hg hm PyProof.Rows.boot_any ha (by decide) (by decide) he
theorem s_sum (hc : X.calm = true) (hg : Gl X "sum") (hm : X.mg "sum" = none) (ha : PE X a (tE P X.K Wx ca)) (he : starEach [a] X.env = (false, eval a X.env) :: starEach [] X.env := by rfl) : PE X (.Call (.Name "sum" p) [a] [] pos) (tE P X.K Wx (op1 sumV ca)) := s_callB (cr_sum hc) sum_S hg hm PyProof.Rows.boot_sum ha (by decide) (by decide) he
theorem s_intC (hg : Gl X "int") (hm : X.mg "int" = none) (ha : PE X a (tE P X.K Wx ca)) (he : starEach [a] X.env = (false, eval a X.env) :: starEach [] X.env := by rfl) : PE X (.Call (.Name "int" p) [a] [] pos) (tE P X.K Wx (op1 intV ca)) := s_callTy call_int1 int_S hg hm boot_int ha (by decide) (by decide) he
theorem s_strC (hg : Gl X "str") (hm : X.mg "str" = none) (ha : PE X a (tE P X.K Wx ca)) (he : starEach [a] X.env = (false, eval a X.env) :: starEach [] X.env := by rfl) : PE X (.Call (.Name "str" p) [a] [] pos) (tE P X.K Wx (op1 strV ca)) := s_callTy call_str_int str_S hg hm PyProof.Rows.boot_str ha (by decide) (by decide) he
theorem s_listC (hg : Gl X "list") (hm : X.mg "list" = none) (ha : PE X a (tE P X.K Wx ca)) (he : starEach [a] X.env = (false, eval a X.env) :: starEach [] X.env := by rfl) : PE X (.Call (.Name "list" p) [a] [] pos) (tE P X.K Wx (op1 listV ca)) := s_callTy call_list_of list_S hg hm PyProof.Rows.boot_list ha (by decide) (by decide) he
theorem s_tupC (hg : Gl X "tuple") (hm : X.mg "tuple" = none) (ha : PE X a (tE P X.K Wx ca)) (he : starEach [a] X.env = (false, eval a X.env) :: starEach [] X.env := by rfl) : PE X (.Call (.Name "tuple" p) [a] [] pos) (tE P X.K Wx (op1 tupleV ca)) := s_callTy call_tuple_of tuple_S hg hm boot_tuple ha (by decide) (by decide) he
theorem s_isiInt (hg : Gl X "isinstance") (hm : X.mg "isinstance" = none) (hgx : Gl X "int") (hmx : X.mg "int" = none) (ha : PE X a (tE P X.K Wx ca)) (he : starEach [a, .Name "int" p2] X.env = (false, eval a X.env) :: starEach [.Name "int" p2] X.env := by rfl) :
    PE X (.Call (.Name "isinstance" p) [a, .Name "int" p2] [] pos) (tE P X.K Wx (op1 (isiV .int) ca)) := s_isi (T := .int) boot_int hg hm hgx hmx ha (by decide) (by decide) he
theorem s_isiBool (hg : Gl X "isinstance") (hm : X.mg "isinstance" = none) (hgx : Gl X "bool") (hmx : X.mg "bool" = none) (ha : PE X a (tE P X.K Wx ca)) (he : starEach [a, .Name "bool" p2] X.env = (false, eval a X.env) :: starEach [.Name "bool" p2] X.env := by rfl) :
    PE X (.Call (.Name "isinstance" p) [a, .Name "bool" p2] [] pos) (tE P X.K Wx (op1 (isiV .bool) ca)) := s_isi (T := .bool) PyProof.Rows.boot_bool hg hm hgx hmx ha (by decide) (by decide) he
theorem s_isiTup (hg : Gl X "isinstance") (hm : X.mg "isinstance" = none) (hgx : Gl X "tuple") (hmx : X.mg "tuple" = none) (ha : PE X a (tE P X.K Wx ca)) (he : starEach [a, .Name "tuple" p2] X.env = (false, eval a X.env) :: starEach [.Name "tuple" p2] X.env := by rfl) :
    PE X (.Call (.Name "isinstance" p) [a, .Name "tuple" p2] [] pos) (tE P X.K Wx (op1 (isiV .tup) ca)) := s_isi (T := .tup) boot_tuple hg hm hgx hmx ha (by decide) (by decide) he
theorem s_isiStr (hg : Gl X "isinstance") (hm : X.mg "isinstance" = none) (hgx : Gl X "str") (hmx : X.mg "str" = none) (ha : PE X a (tE P X.K Wx ca)) (he : starEach [a, .Name "str" p2] X.env = (false, eval a X.env) :: starEach [.Name "str" p2] X.env := by rfl) :
    PE X (.Call (.Name "isinstance" p) [a, .Name "str" p2] [] pos) (tE P X.K Wx (op1 (isiV .str) ca)) := s_isi (T := .str) PyProof.Rows.boot_str hg hm hgx hmx ha (by decide) (by decide) he
theorem s_append (ho : PE X o (tE P X.K Wx co)) (ha : PA X [e] (tA P X.K Wx ct)) (hbase : attributeBase o "append" X.env (eval o X.env) = eval o X.env := by rfl)
    (hfew : ((backTo cpos (starEach [e] X.env)).all (fun x => !x.1) && (backToKw cpos (keywordEach [] X.env)).all (fun x => x.1.isSome)
      && decide ([e].length + ([] : List Keyword).length + (if ([] : List Keyword).isEmpty then 0 else 1) < 30)) = true := by rfl)
    (hline : (apos.endLine == cpos.line) = true := by rfl) (hs : starEach [e] X.env = (false, eval e X.env) :: starEach [] X.env := by rfl) (hplain : (backTo cpos (starEach [] X.env)).any (·.1) = false := by rfl) :
    PE X (.Call (.Attribute o "append" apos) [e] [] cpos) (tE P X.K Wx (meth appendV co ct)) := s_meth PySem.F.slot_list_append PySem.F.type_list_append mt_append append_M ho ha hbase hfew hline hs hplain
theorem s_pop0 (ho : PE X o (tE P X.K Wx co)) (hbase : attributeBase o "pop" X.env (eval o X.env) = eval o X.env := by rfl) (hline : (apos.endLine == cpos.line) = true := by rfl) :
    PE X (.Call (.Attribute o "pop" apos) [] [] cpos) (tE P X.K Wx (meth popV co asN)) := s_meth0 PySem.F.slot_list_pop PySem.F.type_list_pop mt_pop2 pop_M ho hbase hline
theorem s_pop1 (ho : PE X o (tE P X.K Wx co)) (ha : PA X [e] (tA P X.K Wx ct)) (hbase : attributeBase o "pop" X.env (eval o X.env) = eval o X.env := by rfl)
    (hfew : ((backTo cpos (starEach [e] X.env)).all (fun x => !x.1) && (backToKw cpos (keywordEach [] X.env)).all (fun x => x.1.isSome)
      && decide ([e].length + ([] : List Keyword).length + (if ([] : List Keyword).isEmpty then 0 else 1) < 30)) = true := by rfl)
    (hline : (apos.endLine == cpos.line) = true := by rfl) (hs : starEach [e] X.env = (false, eval e X.env) :: starEach [] X.env := by rfl) (hplain : (backTo cpos (starEach [] X.env)).any (·.1) = false := by rfl) :
    PE X (.Call (.Attribute o "pop" apos) [e] [] cpos) (tE P X.K Wx (meth popV co ct)) := s_meth PySem.F.slot_list_pop PySem.F.type_list_pop mt_pop2 pop_M ho ha hbase hfew hline hs hplain
theorem s_insert (ho : PE X o (tE P X.K Wx co)) (ha : PA X [e, c] (tA P X.K Wx ct)) (hbase : attributeBase o "insert" X.env (eval o X.env) = eval o X.env := by rfl)
    (hfew : ((backTo cpos (starEach [e, c] X.env)).all (fun x => !x.1) && (backToKw cpos (keywordEach [] X.env)).all (fun x => x.1.isSome)
      && decide ([e, c].length + ([] : List Keyword).length + (if ([] : List Keyword).isEmpty then 0 else 1) < 30)) = true := by rfl)
    (hline : (apos.endLine == cpos.line) = true := by rfl) (hs : starEach [e, c] X.env = (false, eval e X.env) :: starEach [c] X.env := by rfl) (hplain : (backTo cpos (starEach [c] X.env)).any (·.1) = false := by rfl) :
    PE X (.Call (.Attribute o "insert" apos) [e, c] [] cpos) (tE P X.K Wx (meth insertV co ct)) := s_meth PySem.F.slot_list_insert PySem.F.type_list_insert mt_insA insert_M ho ha hbase hfew hline hs hplain
end
end Mn
namespace Mn
open PySem PySem.Spec PyProof.Rows L2
theorem chE_bool {f g : S → R → R → Option R} {ca cb cc : Ex} (hb : Bo f) (hg : Bo g) : ∀ s r s', chE f g ca cb cc s = .ok r s' → ∃ k, r = bR k := fun s r s' h => by
  unfold chE at h
  cases q : ca s with
  | bad => rw [q] at h; cases h
  | exc _ _ _ => rw [q] at h; cases h
  | ok x s1 =>
    rw [q] at h
    simp only [Res.bind_ok] at h
    cases q2 : cb s1 with
    | bad => rw [q2] at h; cases h
    | exc _ _ _ => rw [q2] at h; cases h
    | ok y s2 =>
      rw [q2] at h
      simp only [Res.bind_ok] at h
      cases q3 : f s2 x y with
      | none => rw [q3] at h; cases h
      | some r' =>
        obtain ⟨k, rfl⟩ := hb _ _ _ _ q3
        rw [q3] at h
        cases k with
        | false => cases h; exact ⟨_, rfl⟩
        | true =>
          simp only at h
          cases q4 : cc s2 with
          | bad => rw [q4] at h; cases h
          | exc _ _ _ => rw [q4] at h; cases h
          | ok z s3 =>
            rw [q4] at h
            simp only [Res.bind_ok] at h
            cases q5 : g s3 y z with
            | none => rw [q5] at h; cases h
            | some r' => rw [q5] at h; cases h; exact hg _ _ _ _ q5
section
variable {X : Cx} {P : Pr} {Wx : WX} {pos : Pos} {a b c : PySem.Expr} {ca cb cc : Ex} {f g : S → R → R → Option R} {rr rr' : R2}
theorem t_chain {op op' : CmpOp} (ho : OpR X (compareOp op) rr) (ho' : OpR X (compareOp op') rr') (hf : OpS P X.K rr f) (hg : OpS P X.K rr' g) (hb : Bo f) (hb2 : Bo g) (ha : PE X a (tE P X.K Wx ca)) (hb' : PE X b (tE P X.K Wx cb)) (hc : PE X c (tE P X.K Wx cc))
    (hm : lastMarks [op, op'] [b, c] = false := by with_unfolding_all rfl) : PT X (.Compare a [op, op'] [b, c] pos) (tT P X.K Wx (tst (chE f g ca cb cc))) := PT_imp (pt_chain ho ho' ha hb' hc hm) fun _ _ _ h => tCh_of hf hg hb (tst_bool (chE_bool hb hb2) h)
end
end Mn

end
set_option maxHeartbeats 0
namespace HeadT
open PySem PySem.Spec PyProof.Rows L2
def top (i : Nat) : Stmt := PySem.Challenge.pw_pilesfit_k69_whole_weights.main.body.getD i (.Pass ⟨0, 0, 0, 0⟩)
open Mn
def psOf : Nat → List PySem.Str
  | 0 => ["thing"]
  | 1 => ["thing", "many"]
  | 2 => ["sums", "edges"]
  | 3 => ["edges", "ahead", "number"]
  | 4 => ["many", "edges"]
  | 5 => ["many", "edges", "start"]
  | 6 => ["many", "edges", "thing"]
  | 7 => ["script"]
  | 8 => ["scale", "place", "many"]
  | 9 => ["scale", "great"]
  | 10 => ["scale", "many", "rows", "great"]
  | 11 => ["scale", "many", "great", "total"]
  | 12 => ["many", "edges", "begins"]
  | 13 => ["edges", "thing"]
  | 14 => ["many", "edges", "thing"]
  | 15 => ["told", "due"]
  | 16 => ["told", "due"]
  | 17 => ["scale", "many", "edges", "counts"]
  | 18 => []
  | 19 => ["script"]
  | _ => []
structure Tb (K : PySem.W.Frag) (mg : PySem.Str → Option Value) (f : Nat → Addr) (fd : Nat → FuncData) : Prop where
  D0 : FunD K "is_integer" "is_integer" (defArgs (top 1)) (defBody (top 1)) (defScope (top 1)) [] [] (f 0) (fd 0)
  g0 : mg "is_integer" = some (.ref (f 0))
  D1 : FunD K "is_tuple" "is_tuple" (defArgs (top 2)) (defBody (top 2)) (defScope (top 2)) [] [] (f 1) (fd 1)
  g1 : mg "is_tuple" = some (.ref (f 1))
  D2 : FunD K "settle" "settle" (defArgs (top 4)) (defBody (top 4)) (defScope (top 4)) [] [] (f 2) (fd 2)
  g2 : mg "settle" = some (.ref (f 2))
  D3 : FunD K "round_through" "round_through" (defArgs (top 5)) (defBody (top 5)) (defScope (top 5)) [] [] (f 3) (fd 3)
  g3 : mg "round_through" = some (.ref (f 3))
  D4 : FunD K "falling_round" "falling_round" (defArgs (top 6)) (defBody (top 6)) (defScope (top 6)) [] [] (f 4) (fd 4)
  g4 : mg "falling_round" = some (.ref (f 4))
  D5 : FunD K "least_ways" "least_ways" (defArgs (top 7)) (defBody (top 7)) (defScope (top 7)) [] [] (f 5) (fd 5)
  g5 : mg "least_ways" = some (.ref (f 5))
  D6 : FunD K "is_potentials" "is_potentials" (defArgs (top 8)) (defBody (top 8)) (defScope (top 8)) [] [] (f 6) (fd 6)
  g6 : mg "is_potentials" = some (.ref (f 6))
  D7 : FunD K "_law_scale" "_law_scale" (defArgs (top 10)) (defBody (top 10)) (defScope (top 10)) [] [] (f 7) (fd 7)
  g7 : mg "_law_scale" = some (.ref (f 7))
  D8 : FunD K "_law_load" "_law_load" (defArgs (top 11)) (defBody (top 11)) (defScope (top 11)) [] [] (f 8) (fd 8)
  g8 : mg "_law_load" = some (.ref (f 8))
  D9 : FunD K "_law_weight" "_law_weight" (defArgs (top 12)) (defBody (top 12)) (defScope (top 12)) [] [] (f 9) (fd 9)
  g9 : mg "_law_weight" = some (.ref (f 9))
  D10 : FunD K "_law_edges" "_law_edges" (defArgs (top 13)) (defBody (top 13)) (defScope (top 13)) [] [] (f 10) (fd 10)
  g10 : mg "_law_edges" = some (.ref (f 10))
  D11 : FunD K "_law_round" "_law_round" (defArgs (top 14)) (defBody (top 14)) (defScope (top 14)) [] [] (f 11) (fd 11)
  g11 : mg "_law_round" = some (.ref (f 11))
  D12 : FunD K "_law_settled" "_law_settled" (defArgs (top 15)) (defBody (top 15)) (defScope (top 15)) [] [] (f 12) (fd 12)
  g12 : mg "_law_settled" = some (.ref (f 12))
  D13 : FunD K "_law_is_falling" "_law_is_falling" (defArgs (top 16)) (defBody (top 16)) (defScope (top 16)) [] [] (f 13) (fd 13)
  g13 : mg "_law_is_falling" = some (.ref (f 13))
  D14 : FunD K "_law_are_potentials" "_law_are_potentials" (defArgs (top 17)) (defBody (top 17)) (defScope (top 17)) [] [] (f 14) (fd 14)
  g14 : mg "_law_are_potentials" = some (.ref (f 14))
  D15 : FunD K "_law_same" "_law_same" (defArgs (top 18)) (defBody (top 18)) (defScope (top 18)) [] [] (f 15) (fd 15)
  g15 : mg "_law_same" = some (.ref (f 15))
  D16 : FunD K "_law_bool" "_law_bool" (defArgs (top 19)) (defBody (top 19)) (defScope (top 19)) [] [] (f 16) (fd 16)
  g16 : mg "_law_bool" = some (.ref (f 16))
  D17 : FunD K "_law_asked" "_law_asked" (defArgs (top 20)) (defBody (top 20)) (defScope (top 20)) [] [] (f 17) (fd 17)
  g17 : mg "_law_asked" = some (.ref (f 17))
  D18 : FunD K "_law_by_hand" "_law_by_hand" (defArgs (top 21)) (defBody (top 21)) (defScope (top 21)) [] [] (f 18) (fd 18)
  g18 : mg "_law_by_hand" = some (.ref (f 18))
  D19 : FunD K "law" "law" (defArgs (top 22)) (defBody (top 22)) (defScope (top 22)) [] [] (f 19) (fd 19)
  g19 : mg "law" = some (.ref (f 19))
structure Bt (mg : PySem.Str → Option Value) : Prop where
  abs_ : mg "abs" = none
  all_ : mg "all" = none
  bool_ : mg "bool" = none
  enumerate_ : mg "enumerate" = none
  int_ : mg "int" = none
  isinstance_ : mg "isinstance" = none
  len_ : mg "len" = none
  list_ : mg "list" = none
  range_ : mg "range" = none
  reversed_ : mg "reversed" = none
  set_ : mg "set" = none
  str_ : mg "str" = none
  sum_ : mg "sum" = none
  tuple_ : mg "tuple" = none
section
variable {K : PySem.W.Frag} {mg : PySem.Str → Option Value} {f : Nat → Addr} {fd : Nat → FuncData}
theorem Tb.k0 (T : Tb K mg f fd) : PySem.W.keepIn K (.ref (f 0)) = true := T.D0.kp
theorem Tb.b0 (T : Tb K mg f fd) : Binds K (fd 0) (psOf 0) [] := T.D0.bindsN fun _ _ _ _ _ _ us hl => match us, hl with | [_], _ => rfl
theorem sc0 : FnScope ["thing"] (psOf 0) (defScope (top 1)) := ⟨rfl, rfl, rfl, by decide +kernel, rfl, by decide +kernel, by decide +kernel⟩
theorem Tb.k1 (T : Tb K mg f fd) : PySem.W.keepIn K (.ref (f 1)) = true := T.D1.kp
theorem Tb.b1 (T : Tb K mg f fd) : Binds K (fd 1) (psOf 1) [] := T.D1.bindsN fun _ _ _ _ _ _ us hl => match us, hl with | [_, _], _ => rfl
theorem sc1 : FnScope ["thing", "many"] (psOf 1) (defScope (top 2)) := ⟨rfl, rfl, rfl, by decide +kernel, rfl, by decide +kernel, by decide +kernel⟩
theorem Tb.k2 (T : Tb K mg f fd) : PySem.W.keepIn K (.ref (f 2)) = true := T.D2.kp
theorem Tb.b2 (T : Tb K mg f fd) : Binds K (fd 2) (psOf 2) [] := T.D2.bindsN fun _ _ _ _ _ _ us hl => match us, hl with | [_, _], _ => rfl
theorem sc2 : FnScope ["sums", "edges", "lowered", "place", "edge", "one", "other", "weight"] (psOf 2) (defScope (top 4)) := ⟨rfl, rfl, rfl, by decide +kernel, rfl, by decide +kernel, by decide +kernel⟩
theorem Tb.k3 (T : Tb K mg f fd) : PySem.W.keepIn K (.ref (f 3)) = true := T.D3.kp
theorem Tb.b3 (T : Tb K mg f fd) : Binds K (fd 3) (psOf 3) [] := T.D3.bindsN fun _ _ _ _ _ _ us hl => match us, hl with | [_, _, _], _ => rfl
theorem sc3 : FnScope ["edges", "ahead", "number", "met", "first", "found"] (psOf 3) (defScope (top 5)) := ⟨rfl, rfl, rfl, by decide +kernel, rfl, by decide +kernel, by decide +kernel⟩
theorem Tb.k4 (T : Tb K mg f fd) : PySem.W.keepIn K (.ref (f 4)) = true := T.D4.kp
theorem Tb.b4 (T : Tb K mg f fd) : Binds K (fd 4) (psOf 4) [] := T.D4.bindsN fun _ _ _ _ _ _ us hl => match us, hl with | [_, _], _ => rfl
theorem sc4 : FnScope ["many", "edges", "sums", "ahead", "lowered", "_", "number"] (psOf 4) (defScope (top 6)) := ⟨rfl, rfl, rfl, by decide +kernel, rfl, by decide +kernel, by decide +kernel⟩
theorem Tb.k5 (T : Tb K mg f fd) : PySem.W.keepIn K (.ref (f 5)) = true := T.D5.kp
theorem Tb.b5 (T : Tb K mg f fd) : Binds K (fd 5) (psOf 5) [] := T.D5.bindsN fun _ _ _ _ _ _ us hl => match us, hl with | [_, _, _], _ => rfl
theorem sc5 : FnScope ["many", "edges", "start", "sums", "changed", "_"] (psOf 5) (defScope (top 7)) := ⟨rfl, rfl, rfl, by decide +kernel, rfl, by decide +kernel, by decide +kernel⟩
theorem Tb.k6 (T : Tb K mg f fd) : PySem.W.keepIn K (.ref (f 6)) = true := T.D6.kp
theorem Tb.b6 (T : Tb K mg f fd) : Binds K (fd 6) (psOf 6) [] := T.D6.bindsN fun _ _ _ _ _ _ us hl => match us, hl with | [_, _, _], _ => rfl
theorem sc6 : FnScope ["many", "edges", "thing", "one", "other", "weight", "number"] (psOf 6) (defScope (top 8)) := ⟨rfl, rfl, rfl, by decide +kernel, rfl, by decide +kernel, by decide +kernel⟩
theorem Tb.k7 (T : Tb K mg f fd) : PySem.W.keepIn K (.ref (f 7)) = true := T.D7.kp
theorem Tb.b7 (T : Tb K mg f fd) : Binds K (fd 7) (psOf 7) [] := T.D7.bindsN fun _ _ _ _ _ _ us hl => match us, hl with | [_], _ => rfl
theorem sc7 : FnScope ["script", "great", "mixed", "cell", "size", "leans", "place"] (psOf 7) (defScope (top 10)) := ⟨rfl, rfl, rfl, by decide +kernel, rfl, by decide +kernel, by decide +kernel⟩
theorem Tb.k8 (T : Tb K mg f fd) : PySem.W.keepIn K (.ref (f 8)) = true := T.D8.kp
theorem Tb.b8 (T : Tb K mg f fd) : Binds K (fd 8) (psOf 8) [] := T.D8.bindsN fun _ _ _ _ _ _ us hl => match us, hl with | [_, _, _], _ => rfl
theorem sc8 : FnScope ["scale", "place", "many", "size", "lean"] (psOf 8) (defScope (top 11)) := ⟨rfl, rfl, rfl, by decide +kernel, rfl, by decide +kernel, by decide +kernel⟩
theorem Tb.k9 (T : Tb K mg f fd) : PySem.W.keepIn K (.ref (f 9)) = true := T.D9.kp
theorem Tb.b9 (T : Tb K mg f fd) : Binds K (fd 9) (psOf 9) [] := T.D9.bindsN fun _ _ _ _ _ _ us hl => match us, hl with | [_, _], _ => rfl
theorem sc9 : FnScope ["scale", "great", "number"] (psOf 9) (defScope (top 12)) := ⟨rfl, rfl, rfl, by decide +kernel, rfl, by decide +kernel, by decide +kernel⟩
theorem Tb.k10 (T : Tb K mg f fd) : PySem.W.keepIn K (.ref (f 10)) = true := T.D10.kp
theorem Tb.b10 (T : Tb K mg f fd) : Binds K (fd 10) (psOf 10) [] := T.D10.bindsN fun _ _ _ _ _ _ us hl => match us, hl with | [_, _, _, _], _ => rfl
theorem sc10 : FnScope ["scale", "many", "rows", "great", "marks", "edges", "lap", "one", "other", "spare", "k"] (psOf 10) (defScope (top 13)) := ⟨rfl, rfl, rfl, by decide +kernel, rfl, by decide +kernel, by decide +kernel⟩
theorem Tb.k11 (T : Tb K mg f fd) : PySem.W.keepIn K (.ref (f 11)) = true := T.D11.kp
theorem Tb.b11 (T : Tb K mg f fd) : Binds K (fd 11) (psOf 11) [] := T.D11.bindsN fun _ _ _ _ _ _ us hl => match us, hl with | [_, _, _, _], _ => rfl
theorem sc11 : FnScope ["scale", "many", "great", "total", "left", "row", "lap", "edges", "rest", "k", "weight"] (psOf 11) (defScope (top 14)) := ⟨rfl, rfl, rfl, by decide +kernel, rfl, by decide +kernel, by decide +kernel⟩
theorem Tb.k12 (T : Tb K mg f fd) : PySem.W.keepIn K (.ref (f 12)) = true := T.D12.kp
theorem Tb.b12 (T : Tb K mg f fd) : Binds K (fd 12) (psOf 12) [] := T.D12.bindsN fun _ _ _ _ _ _ us hl => match us, hl with | [_, _, _], _ => rfl
theorem sc12 : FnScope ["many", "edges", "begins", "least", "lap", "moved", "one", "other", "weight"] (psOf 12) (defScope (top 15)) := ⟨rfl, rfl, rfl, by decide +kernel, rfl, by decide +kernel, by decide +kernel⟩
theorem Tb.k13 (T : Tb K mg f fd) : PySem.W.keepIn K (.ref (f 13)) = true := T.D13.kp
theorem Tb.b13 (T : Tb K mg f fd) : Binds K (fd 13) (psOf 13) [] := T.D13.bindsN fun _ _ _ _ _ _ us hl => match us, hl with | [_, _], _ => rfl
theorem sc13 : FnScope ["edges", "thing", "k", "at"] (psOf 13) (defScope (top 16)) := ⟨rfl, rfl, rfl, by decide +kernel, rfl, by decide +kernel, by decide +kernel⟩
theorem Tb.k14 (T : Tb K mg f fd) : PySem.W.keepIn K (.ref (f 14)) = true := T.D14.kp
theorem Tb.b14 (T : Tb K mg f fd) : Binds K (fd 14) (psOf 14) [] := T.D14.bindsN fun _ _ _ _ _ _ us hl => match us, hl with | [_, _, _], _ => rfl
theorem sc14 : FnScope ["many", "edges", "thing", "one", "other", "weight"] (psOf 14) (defScope (top 17)) := ⟨rfl, rfl, rfl, by decide +kernel, rfl, by decide +kernel, by decide +kernel⟩
theorem Tb.k15 (T : Tb K mg f fd) : PySem.W.keepIn K (.ref (f 15)) = true := T.D15.kp
theorem Tb.b15 (T : Tb K mg f fd) : Binds K (fd 15) (psOf 15) [] := T.D15.bindsN fun _ _ _ _ _ _ us hl => match us, hl with | [_, _], _ => rfl
theorem sc15 : FnScope ["told", "due", "k"] (psOf 15) (defScope (top 18)) := ⟨rfl, rfl, rfl, by decide +kernel, rfl, by decide +kernel, by decide +kernel⟩
theorem Tb.k16 (T : Tb K mg f fd) : PySem.W.keepIn K (.ref (f 16)) = true := T.D16.kp
theorem Tb.b16 (T : Tb K mg f fd) : Binds K (fd 16) (psOf 16) [] := T.D16.bindsN fun _ _ _ _ _ _ us hl => match us, hl with | [_, _], _ => rfl
theorem sc16 : FnScope ["told", "due"] (psOf 16) (defScope (top 19)) := ⟨rfl, rfl, rfl, by decide +kernel, rfl, by decide +kernel, by decide +kernel⟩
theorem Tb.k17 (T : Tb K mg f fd) : PySem.W.keepIn K (.ref (f 17)) = true := T.D17.kp
theorem Tb.b17 (T : Tb K mg f fd) : Binds K (fd 17) (psOf 17) [] := T.D17.bindsN fun _ _ _ _ _ _ us hl => match us, hl with | [_, _, _, _], _ => rfl
theorem sc17 : FnScope ["scale", "many", "edges", "counts", "settled", "told", "base", "starts", "start", "begins", "at", "things", "odd", "thing", "one", "other", "back", "more", "falls", "longer", "k"] (psOf 17) (defScope (top 20)) := ⟨rfl, rfl, rfl, by decide +kernel, rfl, by decide +kernel, by decide +kernel⟩
theorem Tb.k18 (T : Tb K mg f fd) : PySem.W.keepIn K (.ref (f 18)) = true := T.D18.kp
theorem Tb.b18 (T : Tb K mg f fd) : Binds K (fd 18) (psOf 18) [] := T.D18.bindsN fun _ _ _ _ _ _ us hl => match us, hl with | [], _ => rfl
theorem sc18 : FnScope ["told", "rows", "one", "due", "looks", "many", "edges", "thing"] (psOf 18) (defScope (top 21)) := ⟨rfl, rfl, rfl, by decide +kernel, rfl, by decide +kernel, by decide +kernel⟩
theorem Tb.k19 (T : Tb K mg f fd) : PySem.W.keepIn K (.ref (f 19)) = true := T.D19.kp
theorem Tb.b19 (T : Tb K mg f fd) : Binds K (fd 19) (psOf 19) [] := T.D19.bindsN fun _ _ _ _ _ _ us hl => match us, hl with | [_], _ => rfl
theorem sc19 : FnScope ["script", "scale", "wide", "counts", "lap", "many", "great", "edges", "one"] (psOf 19) (defScope (top 22)) := ⟨rfl, rfl, rfl, by decide +kernel, rfl, by decide +kernel, by decide +kernel⟩
theorem kb4_10 (T : Tb K mg f fd) : KBd K (fd 4) (psOf 4) ["edges", "many"] [1, 0] := by
  obtain ⟨oc, od, dV, kV, doc, pm, an, cdv, ct, osl, e, lk, hcd, hD, hK⟩ := T.D4.ex
  intro s ws _ hl
  rcases hD with ⟨_, rfl⟩ | ⟨z, _⟩
  · rw [e]; exact BindsTo.of_eq (match ws, hl with | [_, _], _ => rfl)
  · exact absurd rfl z
theorem kb5_210 (T : Tb K mg f fd) : KBd K (fd 5) (psOf 5) ["start", "edges", "many"] [2, 1, 0] := by
  obtain ⟨oc, od, dV, kV, doc, pm, an, cdv, ct, osl, e, lk, hcd, hD, hK⟩ := T.D5.ex
  intro s ws _ hl
  rcases hD with ⟨_, rfl⟩ | ⟨z, _⟩
  · rw [e]; exact BindsTo.of_eq (match ws, hl with | [_, _, _], _ => rfl)
  · exact absurd rfl z
theorem kb6_120 (T : Tb K mg f fd) : KBd K (fd 6) (psOf 6) ["thing", "many", "edges"] [1, 2, 0] := by
  obtain ⟨oc, od, dV, kV, doc, pm, an, cdv, ct, osl, e, lk, hcd, hD, hK⟩ := T.D6.ex
  intro s ws _ hl
  rcases hD with ⟨_, rfl⟩ | ⟨z, _⟩
  · rw [e]; exact BindsTo.of_eq (match ws, hl with | [_, _, _], _ => rfl)
  · exact absurd rfl z
end
section
variable {P : Pr} {Pg : Program} {w : World} {K : PySem.W.Frag} {mg : PySem.Str → Option Value} {base : Heap} {f : Nat → Addr} {fd : Nat → FuncData} {k : Nat} {call : Call}
theorem w0 (T : Tb K mg f fd) (B : Bt mg) (Fs : ∀ j, j < 20 → FnOk Pg w K mg base (L2.CX Pg w) k (f j) (fd j) (psOf j) (spF P K call j (psOf j).length)) (cdv : Value) (A : Around) (outer : List Env) (s : Shared) (H : Hp) (E : XK) (hr : Room k (A.deeper (envOfC "is_integer" (defScope (top 1)) s.heap.objs.size (f 0) cdv))) :
    PSs (cxOf (L2.CX Pg w) Pg w K mg base ["thing"] "is_integer" (defScope (top 1)) (f 0) cdv A outer s H E) (defBody (top 1)) (tS P K (fun cls d _ H => E cls d H) (B0 call)) := by
  have hu := Room.h64 hr
  have hu1 := Room.h1 hr
  have nd := sc0.nd
  have hp : PassesOwn (model Pg w) _ (cxOf (L2.CX Pg w) Pg w K mg base ["thing"] "is_integer" (defScope (top 1)) (f 0) cdv A outer s H E).env (cxOf (L2.CX Pg w) Pg w K mg base ["thing"] "is_integer" (defScope (top 1)) (f 0) cdv A outer s H E).xe := passes_of rfl
  have tk : Takes (cxOf (L2.CX Pg w) Pg w K mg base ["thing"] "is_integer" (defScope (top 1)) (f 0) cdv A outer s H E) (fun cls d _ H => E cls d H) := takes_of rfl rfl rfl rfl
  exact (c_one (c_ret (s_and (s_isiInt (by rfl) B.isinstance_ (by rfl) B.int_ (s_v (i := 0) rfl (.inl rfl))) (s_one (s_not (s_isiBool (by rfl) B.isinstance_ (by rfl) B.bool_ (s_v (i := 0) rfl (.inl rfl))))))))
theorem w1 (T : Tb K mg f fd) (B : Bt mg) (Fs : ∀ j, j < 20 → FnOk Pg w K mg base (L2.CX Pg w) k (f j) (fd j) (psOf j) (spF P K call j (psOf j).length)) (cdv : Value) (A : Around) (outer : List Env) (s : Shared) (H : Hp) (E : XK) (hr : Room k (A.deeper (envOfC "is_tuple" (defScope (top 2)) s.heap.objs.size (f 1) cdv))) :
    PSs (cxOf (L2.CX Pg w) Pg w K mg base ["thing", "many"] "is_tuple" (defScope (top 2)) (f 1) cdv A outer s H E) (defBody (top 2)) (tS P K (fun cls d _ H => E cls d H) (B1 call)) := by
  have hu := Room.h64 hr
  have hu1 := Room.h1 hr
  have nd := sc1.nd
  have hp : PassesOwn (model Pg w) _ (cxOf (L2.CX Pg w) Pg w K mg base ["thing", "many"] "is_tuple" (defScope (top 2)) (f 1) cdv A outer s H E).env (cxOf (L2.CX Pg w) Pg w K mg base ["thing", "many"] "is_tuple" (defScope (top 2)) (f 1) cdv A outer s H E).xe := passes_of rfl
  have tk : Takes (cxOf (L2.CX Pg w) Pg w K mg base ["thing", "many"] "is_tuple" (defScope (top 2)) (f 1) cdv A outer s H E) (fun cls d _ H => E cls d H) := takes_of rfl rfl rfl rfl
  exact (c_one (c_ret (s_and (s_isiTup (by rfl) B.isinstance_ (by rfl) B.tuple_ (s_v (i := 0) rfl (.inl rfl))) (s_one (s_eq hu (s_len (by rfl) B.len_ (s_v (i := 0) rfl (.inl rfl))) (s_v (i := 1) rfl (.inl rfl)))))))
theorem w2 (T : Tb K mg f fd) (B : Bt mg) (Fs : ∀ j, j < 20 → FnOk Pg w K mg base (L2.CX Pg w) k (f j) (fd j) (psOf j) (spF P K call j (psOf j).length)) (cdv : Value) (A : Around) (outer : List Env) (s : Shared) (H : Hp) (E : XK) (hr : Room k (A.deeper (envOfC "settle" (defScope (top 4)) s.heap.objs.size (f 2) cdv))) :
    PSs (cxOf (L2.CX Pg w) Pg w K mg base ["sums", "edges", "lowered", "place", "edge", "one", "other", "weight"] "settle" (defScope (top 4)) (f 2) cdv A outer s H E) (defBody (top 4)) (tS P K (fun cls d _ H => E cls d H) (B2 call)) := by
  have hu := Room.h64 hr
  have hu1 := Room.h1 hr
  have nd := sc2.nd
  have hp : PassesOwn (model Pg w) _ (cxOf (L2.CX Pg w) Pg w K mg base ["sums", "edges", "lowered", "place", "edge", "one", "other", "weight"] "settle" (defScope (top 4)) (f 2) cdv A outer s H E).env (cxOf (L2.CX Pg w) Pg w K mg base ["sums", "edges", "lowered", "place", "edge", "one", "other", "weight"] "settle" (defScope (top 4)) (f 2) cdv A outer s H E).xe := passes_of rfl
  have tk : Takes (cxOf (L2.CX Pg w) Pg w K mg base ["sums", "edges", "lowered", "place", "edge", "one", "other", "weight"] "settle" (defScope (top 4)) (f 2) cdv A outer s H E) (fun cls d _ H => E cls d H) := takes_of rfl rfl rfl rfl
  exact (c_cons (c_set (i := 2) nd rfl (.inl rfl) s_dct) (c_cons (c_for hp rfl (i_enum (by rfl) B.enumerate_ (s_v (i := 1) rfl (.inl rfl))) (g_tup rfl (gs_cons (g_name (vs := [3, 4]) nd rfl (.inl rfl) (by decide)) (gs_cons (g_name (vs := [3, 4]) nd rfl (.inl rfl) (by decide)) gs_nil))) (c_cons (c_unp (s_v (i := 4) rfl (.inl rfl)) (g_tup rfl (gs_cons (g_name (vs := [5, 6, 7]) nd rfl (.inl rfl) (by decide)) (gs_cons (g_name (vs := [5, 6, 7]) nd rfl (.inl rfl) (by decide)) (gs_cons (g_name (vs := [5, 6, 7]) nd rfl (.inl rfl) (by decide)) gs_nil))))) (c_one (c_if (w_and (t_isnt  (s_ix hu1 (s_v (i := 0) rfl (.inl rfl)) (s_v (i := 5) rfl (.inl rfl)) (fun _ _ => rfl)) s_non) (w_and1 (w_or (t_is  (s_ix hu1 (s_v (i := 0) rfl (.inl rfl)) (s_v (i := 6) rfl (.inl rfl)) (fun _ _ => rfl)) s_non) (w_or1 (t_lt  (s_add (s_ix hu1 (s_v (i := 0) rfl (.inl rfl)) (s_v (i := 5) rfl (.inl rfl)) (fun _ _ => rfl)) (s_v (i := 7) rfl (.inl rfl))) (s_ix hu1 (s_v (i := 0) rfl (.inl rfl)) (s_v (i := 6) rfl (.inl rfl)) (fun _ _ => rfl))))).pt)).pt (c_cons (c_put hu1 (s_v (i := 0) rfl (.inl rfl)) (s_v (i := 6) rfl (.inl rfl)) (s_add (s_ix hu1 (s_v (i := 0) rfl (.inl rfl)) (s_v (i := 5) rfl (.inl rfl)) (fun _ _ => rfl)) (s_v (i := 7) rfl (.inl rfl)))) (c_one (c_put hu1 (s_v (i := 2) rfl (.inl rfl)) (s_v (i := 6) rfl (.inl rfl)) (s_v (i := 3) rfl (.inl rfl))))) c_nil)))) (c_one (c_ret (s_v (i := 2) rfl (.inl rfl))))))
theorem w3 (T : Tb K mg f fd) (B : Bt mg) (Fs : ∀ j, j < 20 → FnOk Pg w K mg base (L2.CX Pg w) k (f j) (fd j) (psOf j) (spF P K call j (psOf j).length)) (cdv : Value) (A : Around) (outer : List Env) (s : Shared) (H : Hp) (E : XK) (hr : Room k (A.deeper (envOfC "round_through" (defScope (top 5)) s.heap.objs.size (f 3) cdv))) :
    PSs (cxOf (L2.CX Pg w) Pg w K mg base ["edges", "ahead", "number", "met", "first", "found"] "round_through" (defScope (top 5)) (f 3) cdv A outer s H E) (defBody (top 5)) (tS P K (fun cls d _ H => E cls d H) (B3 call)) := by
  have hu := Room.h64 hr
  have hu1 := Room.h1 hr
  have nd := sc3.nd
  have hp : PassesOwn (model Pg w) _ (cxOf (L2.CX Pg w) Pg w K mg base ["edges", "ahead", "number", "met", "first", "found"] "round_through" (defScope (top 5)) (f 3) cdv A outer s H E).env (cxOf (L2.CX Pg w) Pg w K mg base ["edges", "ahead", "number", "met", "first", "found"] "round_through" (defScope (top 5)) (f 3) cdv A outer s H E).xe := passes_of rfl
  have tk : Takes (cxOf (L2.CX Pg w) Pg w K mg base ["edges", "ahead", "number", "met", "first", "found"] "round_through" (defScope (top 5)) (f 3) cdv A outer s H E) (fun cls d _ H => E cls d H) := takes_of rfl rfl rfl rfl
  exact (c_cons (c_set (i := 3) nd rfl (.inl rfl) (s_lst s_an)) (c_cons (c_while hp (t_notin hu1 (s_v (i := 2) rfl (.inl rfl)) (s_v (i := 3) rfl (.inl rfl)) (by rfl)) (c_cons (c_expr (s_append (s_v (i := 3) rfl (.inl rfl)) (s_ac (s_v (i := 2) rfl (.inl rfl)) s_an))) (c_one (c_set (i := 2) nd rfl (.inl rfl) (s_ix hu1 (s_ix hu1 (s_v (i := 0) rfl (.inl rfl)) (s_ix hu1 (s_v (i := 1) rfl (.inl rfl)) (s_v (i := 2) rfl (.inl rfl)) (fun _ _ => rfl)) (fun _ _ => rfl)) s_int (fun _ _ => rfl)))))) (c_cons (c_set (i := 4) nd rfl (.inl rfl) (s_v (i := 2) rfl (.inl rfl))) (c_cons (c_set (i := 5) nd rfl (.inl rfl) (s_lst (s_ac (s_ix hu1 (s_v (i := 1) rfl (.inl rfl)) (s_v (i := 2) rfl (.inl rfl)) (fun _ _ => rfl)) s_an))) (c_cons (c_set (i := 2) nd rfl (.inl rfl) (s_ix hu1 (s_ix hu1 (s_v (i := 0) rfl (.inl rfl)) (s_ix hu1 (s_v (i := 1) rfl (.inl rfl)) (s_v (i := 2) rfl (.inl rfl)) (fun _ _ => rfl)) (fun _ _ => rfl)) s_int (fun _ _ => rfl))) (c_cons (c_while hp (t_ne hu (s_v (i := 2) rfl (.inl rfl)) (s_v (i := 4) rfl (.inl rfl))) (c_cons (c_expr (s_append (s_v (i := 5) rfl (.inl rfl)) (s_ac (s_ix hu1 (s_v (i := 1) rfl (.inl rfl)) (s_v (i := 2) rfl (.inl rfl)) (fun _ _ => rfl)) s_an))) (c_one (c_set (i := 2) nd rfl (.inl rfl) (s_ix hu1 (s_ix hu1 (s_v (i := 0) rfl (.inl rfl)) (s_ix hu1 (s_v (i := 1) rfl (.inl rfl)) (s_v (i := 2) rfl (.inl rfl)) (fun _ _ => rfl)) (fun _ _ => rfl)) s_int (fun _ _ => rfl)))))) (c_one (c_ret (s_rev rfl (by rfl) B.tuple_ (by rfl) B.reversed_ (s_v (i := 5) rfl (.inl rfl)))))))))))
theorem w4 (T : Tb K mg f fd) (B : Bt mg) (Fs : ∀ j, j < 20 → FnOk Pg w K mg base (L2.CX Pg w) k (f j) (fd j) (psOf j) (spF P K call j (psOf j).length)) (cdv : Value) (A : Around) (outer : List Env) (s : Shared) (H : Hp) (E : XK) (hr : Room k (A.deeper (envOfC "falling_round" (defScope (top 6)) s.heap.objs.size (f 4) cdv))) :
    PSs (cxOf (L2.CX Pg w) Pg w K mg base ["many", "edges", "sums", "ahead", "lowered", "_", "number"] "falling_round" (defScope (top 6)) (f 4) cdv A outer s H E) (defBody (top 6)) (tS P K (fun cls d _ H => E cls d H) (B4 call)) := by
  have hu := Room.h64 hr
  have hu1 := Room.h1 hr
  have nd := sc4.nd
  have hp : PassesOwn (model Pg w) _ (cxOf (L2.CX Pg w) Pg w K mg base ["many", "edges", "sums", "ahead", "lowered", "_", "number"] "falling_round" (defScope (top 6)) (f 4) cdv A outer s H E).env (cxOf (L2.CX Pg w) Pg w K mg base ["many", "edges", "sums", "ahead", "lowered", "_", "number"] "falling_round" (defScope (top 6)) (f 4) cdv A outer s H E).xe := passes_of rfl
  have tk : Takes (cxOf (L2.CX Pg w) Pg w K mg base ["many", "edges", "sums", "ahead", "lowered", "_", "number"] "falling_round" (defScope (top 6)) (f 4) cdv A outer s H E) (fun cls d _ H => E cls d H) := takes_of rfl rfl rfl rfl
  exact (c_cons (c_setLc (i := 2) (own := [("_", 5)]) (tgOk_v (by decide)) rfl nd rfl rfl (sw_true rfl rfl rfl rfl) (i_rng1 (by rfl) B.range_ (s_v (i := 0) rfl (.inl rfl))) (blkOk_by rfl) (fun _ _ _ _ _ => (g_name (vs := [5]) nd rfl (.inl rfl) (by decide))) (fun _ _ _ _ _ => ts_nil) (fun _ _ _ _ _ => s_int)) (c_cons (c_set (i := 3) nd rfl (.inl rfl) s_dct) (c_cons (c_set (i := 4) nd rfl (.inl rfl) s_dct) (c_cons (c_for hp rfl (i_rng1 (by rfl) B.range_ (s_add (s_v (i := 0) rfl (.inl rfl)) s_int)) (g_name (vs := [5]) nd rfl (.inl rfl) (by decide)) (c_cons (c_set (i := 4) nd rfl (.inl rfl) (s_callH (Fs 2 (by decide)) tk hr (by rfl) T.g2 T.k2 T.b2 (by rfl) (by exact (al1 (al1 al0))) (s_ac (s_v (i := 2) rfl (.inl rfl)) (s_ac (s_v (i := 1) rfl (.inl rfl)) s_an)))) (c_one (c_forD (i := 4) hp rfl rfl (.inl rfl) (g_name (vs := [6]) nd rfl (.inl rfl) (by decide)) (c_one (c_put hu1 (s_v (i := 3) rfl (.inl rfl)) (s_v (i := 6) rfl (.inl rfl)) (s_ix hu1 (s_v (i := 4) rfl (.inl rfl)) (s_v (i := 6) rfl (.inl rfl)) (fun _ _ => rfl)))))))) (c_cons (c_forD (i := 4) hp rfl rfl (.inl rfl) (g_name (vs := [6]) nd rfl (.inl rfl) (by decide)) (c_one (c_ret (s_callH (Fs 3 (by decide)) tk hr (by rfl) T.g3 T.k3 T.b3 (by rfl) (by exact (al1 (al1 (al1 al0)))) (s_ac (s_v (i := 1) rfl (.inl rfl)) (s_ac (s_v (i := 3) rfl (.inl rfl)) (s_ac (s_v (i := 6) rfl (.inl rfl)) s_an))))))) (c_one (c_ret s_non)))))))
theorem w5 (T : Tb K mg f fd) (B : Bt mg) (Fs : ∀ j, j < 20 → FnOk Pg w K mg base (L2.CX Pg w) k (f j) (fd j) (psOf j) (spF P K call j (psOf j).length)) (cdv : Value) (A : Around) (outer : List Env) (s : Shared) (H : Hp) (E : XK) (hr : Room k (A.deeper (envOfC "least_ways" (defScope (top 7)) s.heap.objs.size (f 5) cdv))) :
    PSs (cxOf (L2.CX Pg w) Pg w K mg base ["many", "edges", "start", "sums", "changed", "_"] "least_ways" (defScope (top 7)) (f 5) cdv A outer s H E) (defBody (top 7)) (tS P K (fun cls d _ H => E cls d H) (B5 call)) := by
  have hu := Room.h64 hr
  have hu1 := Room.h1 hr
  have nd := sc5.nd
  have hp : PassesOwn (model Pg w) _ (cxOf (L2.CX Pg w) Pg w K mg base ["many", "edges", "start", "sums", "changed", "_"] "least_ways" (defScope (top 7)) (f 5) cdv A outer s H E).env (cxOf (L2.CX Pg w) Pg w K mg base ["many", "edges", "start", "sums", "changed", "_"] "least_ways" (defScope (top 7)) (f 5) cdv A outer s H E).xe := passes_of rfl
  have tk : Takes (cxOf (L2.CX Pg w) Pg w K mg base ["many", "edges", "start", "sums", "changed", "_"] "least_ways" (defScope (top 7)) (f 5) cdv A outer s H E) (fun cls d _ H => E cls d H) := takes_of rfl rfl rfl rfl
  exact (c_cons (c_setLc (i := 3) (own := [("_", 5)]) (tgOk_v (by decide)) rfl nd rfl rfl (sw_true rfl rfl rfl rfl) (i_rng1 (by rfl) B.range_ (s_v (i := 0) rfl (.inl rfl))) (blkOk_by rfl) (fun _ _ _ _ _ => (g_name (vs := [5]) nd rfl (.inl rfl) (by decide))) (fun _ _ _ _ _ => ts_nil) (fun _ _ _ _ _ => s_non)) (c_cons (c_put hu1 (s_v (i := 3) rfl (.inl rfl)) (s_v (i := 2) rfl (.inl rfl)) s_int) (c_cons (c_set (i := 4) nd rfl (.inl rfl) s_bl) (c_cons (c_while hp (t_tr (s_v (i := 4) rfl (.inl rfl))) (c_one (c_set (i := 4) nd rfl (.inl rfl) (s_gt  (s_len (by rfl) B.len_ (s_callH (Fs 2 (by decide)) tk hr (by rfl) T.g2 T.k2 T.b2 (by rfl) (by exact (al1 (al1 al0))) (s_ac (s_v (i := 3) rfl (.inl rfl)) (s_ac (s_v (i := 1) rfl (.inl rfl)) s_an)))) s_int)))) (c_one (c_ret (s_tupC (by rfl) B.tuple_ (s_v (i := 3) rfl (.inl rfl)))))))))
theorem w6 (T : Tb K mg f fd) (B : Bt mg) (Fs : ∀ j, j < 20 → FnOk Pg w K mg base (L2.CX Pg w) k (f j) (fd j) (psOf j) (spF P K call j (psOf j).length)) (cdv : Value) (A : Around) (outer : List Env) (s : Shared) (H : Hp) (E : XK) (hr : Room k (A.deeper (envOfC "is_potentials" (defScope (top 8)) s.heap.objs.size (f 6) cdv))) :
    PSs (cxOf (L2.CX Pg w) Pg w K mg base ["many", "edges", "thing", "one", "other", "weight", "number"] "is_potentials" (defScope (top 8)) (f 6) cdv A outer s H E) (defBody (top 8)) (tS P K (fun cls d _ H => E cls d H) (B6 call)) := by
  have hu := Room.h64 hr
  have hu1 := Room.h1 hr
  have nd := sc6.nd
  have hp : PassesOwn (model Pg w) _ (cxOf (L2.CX Pg w) Pg w K mg base ["many", "edges", "thing", "one", "other", "weight", "number"] "is_potentials" (defScope (top 8)) (f 6) cdv A outer s H E).env (cxOf (L2.CX Pg w) Pg w K mg base ["many", "edges", "thing", "one", "other", "weight", "number"] "is_potentials" (defScope (top 8)) (f 6) cdv A outer s H E).xe := passes_of rfl
  have tk : Takes (cxOf (L2.CX Pg w) Pg w K mg base ["many", "edges", "thing", "one", "other", "weight", "number"] "is_potentials" (defScope (top 8)) (f 6) cdv A outer s H E) (fun cls d _ H => E cls d H) := takes_of rfl rfl rfl rfl
  exact (c_cons (c_if (w_or (t_not (t_tr (s_callH (Fs 1 (by decide)) tk hr (by rfl) T.g1 T.k1 T.b1 (by rfl) (by exact (al1 (al1 al0))) (s_ac (s_v (i := 2) rfl (.inr (.inl rfl))) (s_ac (s_v (i := 0) rfl (.inl rfl)) s_an))))) (w_or1 (t_not (t_tr (s_all rfl (by rfl) B.all_ (s_lc (own := [("number", 6)]) (tgOk_v (by decide)) rfl nd (i_seq (s_v (i := 2) rfl (.inr (.inl rfl)))) (blkOk_by rfl) (fun _ _ _ _ _ => (g_name (vs := [6]) nd rfl (.inl rfl) (by decide))) (fun _ _ _ _ _ => ts_nil) (fun _ _ _ _ _ => (s_callH (Fs 0 (by decide)) takes0 hr (by rfl) T.g0 T.k0 T.b0 (by rfl) (by exact (al1 al0)) (s_ac (s_v (i := 6) rfl (.inl rfl)) s_an))))))))).pt (c_one (c_ret s_bl)) c_nil) (c_one (c_ret (s_all rfl (by rfl) B.all_ (s_lc (own := [("one", 3), ("other", 4), ("weight", 5)]) (tgOk_t (List.forall_mem_cons.mpr ⟨(tgOk_v (by decide)), (List.forall_mem_cons.mpr ⟨(tgOk_v (by decide)), (List.forall_mem_cons.mpr ⟨(tgOk_v (by decide)), List.forall_mem_nil _⟩)⟩)⟩)) rfl nd (i_seq (s_v (i := 1) rfl (.inl rfl))) (blkOk_by rfl) (fun _ _ _ _ _ => (g_tup rfl (gs_cons (g_name (vs := [3, 4, 5]) nd rfl (.inl rfl) (by decide)) (gs_cons (g_name (vs := [3, 4, 5]) nd rfl (.inl rfl) (by decide)) (gs_cons (g_name (vs := [3, 4, 5]) nd rfl (.inl rfl) (by decide)) gs_nil))))) (fun _ _ _ _ _ => ts_nil) (fun _ _ _ _ _ => (s_ge  (s_add (s_ix hu1 (s_v (i := 2) rfl (.inr (.inl rfl))) (s_v (i := 3) rfl (.inl rfl)) (fun _ _ => rfl)) (s_v (i := 5) rfl (.inl rfl))) (s_ix hu1 (s_v (i := 2) rfl (.inr (.inl rfl))) (s_v (i := 4) rfl (.inl rfl)) (fun _ _ => rfl)))))))))
theorem w7 (T : Tb K mg f fd) (B : Bt mg) (Fs : ∀ j, j < 20 → FnOk Pg w K mg base (L2.CX Pg w) k (f j) (fd j) (psOf j) (spF P K call j (psOf j).length)) (cdv : Value) (A : Around) (outer : List Env) (s : Shared) (H : Hp) (E : XK) (hr : Room k (A.deeper (envOfC "_law_scale" (defScope (top 10)) s.heap.objs.size (f 7) cdv))) :
    PSs (cxOf (L2.CX Pg w) Pg w K mg base ["script", "great", "mixed", "cell", "size", "leans", "place"] "_law_scale" (defScope (top 10)) (f 7) cdv A outer s H E) (defBody (top 10)) (tS P K (fun cls d _ H => E cls d H) (B7 call)) := by
  have hu := Room.h64 hr
  have hu1 := Room.h1 hr
  have nd := sc7.nd
  have hp : PassesOwn (model Pg w) _ (cxOf (L2.CX Pg w) Pg w K mg base ["script", "great", "mixed", "cell", "size", "leans", "place"] "_law_scale" (defScope (top 10)) (f 7) cdv A outer s H E).env (cxOf (L2.CX Pg w) Pg w K mg base ["script", "great", "mixed", "cell", "size", "leans", "place"] "_law_scale" (defScope (top 10)) (f 7) cdv A outer s H E).xe := passes_of rfl
  have tk : Takes (cxOf (L2.CX Pg w) Pg w K mg base ["script", "great", "mixed", "cell", "size", "leans", "place"] "_law_scale" (defScope (top 10)) (f 7) cdv A outer s H E) (fun cls d _ H => E cls d H) := takes_of rfl rfl rfl rfl
  exact (c_cons (c_set (i := 1) nd rfl (.inl rfl) (s_lst s_an)) (c_cons (c_set (i := 2) nd rfl (.inl rfl) s_int) (c_cons (c_for hp rfl (i_seq (s_sl (s_v (i := 0) rfl (.inl rfl)) o_none (o_some s_int))) (g_name (vs := [3]) nd rfl (.inl rfl) (by decide)) (c_cons (c_set (i := 4) nd rfl (.inl rfl) (s_mod (s_abs (by rfl) B.abs_ (s_intC (by rfl) B.int_ (s_v (i := 3) rfl (.inl rfl)))) (s_shl s_int s_int))) (c_cons (c_set (i := 2) nd rfl (.inl rfl) (s_mod (s_intC (by rfl) B.int_ (s_add (s_add (s_add (s_mul (s_v (i := 2) rfl (.inl rfl)) s_int) (s_mul (s_mod (s_v (i := 4) rfl (.inl rfl)) s_int) s_int)) (s_intC (by rfl) B.int_ (s_lt  (s_intC (by rfl) B.int_ (s_v (i := 3) rfl (.inl rfl))) s_int))) s_int)) s_int)) (c_one (c_if (t_ge  (s_v (i := 4) rfl (.inl rfl)) (s_pow s_int s_int)) (c_one (c_set (i := 1) nd rfl (.inl rfl) (s_add (s_lst (s_ac (s_v (i := 4) rfl (.inl rfl)) s_an)) (s_v (i := 1) rfl (.inl rfl))))) c_nil))))) (c_cons (c_set (i := 5) nd rfl (.inl rfl) (s_lst s_an)) (c_cons (c_for hp rfl (i_rng1 (by rfl) B.range_ s_int) (g_name (vs := [6]) nd rfl (.inl rfl) (by decide)) (c_cons (c_set (i := 2) nd rfl (.inl rfl) (s_mod (s_intC (by rfl) B.int_ (s_add (s_add (s_mul (s_v (i := 2) rfl (.inl rfl)) s_int) (s_mul s_int (s_v (i := 6) rfl (.inl rfl)))) s_int)) s_int)) (c_one (c_expr (s_append (s_v (i := 5) rfl (.inl rfl)) (s_ac (s_mod (s_intC (by rfl) B.int_ (s_div (s_v (i := 2) rfl (.inl rfl)) s_int)) s_int) s_an)))))) (c_one (c_ret (s_lst (s_ac (s_v (i := 1) rfl (.inl rfl)) (s_ac (s_v (i := 2) rfl (.inl rfl)) (s_ac s_int (s_ac (s_v (i := 5) rfl (.inl rfl)) s_an))))))))))))
theorem w8 (T : Tb K mg f fd) (B : Bt mg) (Fs : ∀ j, j < 20 → FnOk Pg w K mg base (L2.CX Pg w) k (f j) (fd j) (psOf j) (spF P K call j (psOf j).length)) (cdv : Value) (A : Around) (outer : List Env) (s : Shared) (H : Hp) (E : XK) (hr : Room k (A.deeper (envOfC "_law_load" (defScope (top 11)) s.heap.objs.size (f 8) cdv))) :
    PSs (cxOf (L2.CX Pg w) Pg w K mg base ["scale", "place", "many", "size", "lean"] "_law_load" (defScope (top 11)) (f 8) cdv A outer s H E) (defBody (top 11)) (tS P K (fun cls d _ H => E cls d H) (B8 call)) := by
  have hu := Room.h64 hr
  have hu1 := Room.h1 hr
  have nd := sc8.nd
  have hp : PassesOwn (model Pg w) _ (cxOf (L2.CX Pg w) Pg w K mg base ["scale", "place", "many", "size", "lean"] "_law_load" (defScope (top 11)) (f 8) cdv A outer s H E).env (cxOf (L2.CX Pg w) Pg w K mg base ["scale", "place", "many", "size", "lean"] "_law_load" (defScope (top 11)) (f 8) cdv A outer s H E).xe := passes_of rfl
  have tk : Takes (cxOf (L2.CX Pg w) Pg w K mg base ["scale", "place", "many", "size", "lean"] "_law_load" (defScope (top 11)) (f 8) cdv A outer s H E) (fun cls d _ H => E cls d H) := takes_of rfl rfl rfl rfl
  exact (c_cons (c_put hu1 (s_v (i := 0) rfl (.inl rfl)) s_int (s_add (s_ix hu1 (s_v (i := 0) rfl (.inl rfl)) s_int (fun _ _ => rfl)) s_int)) (c_cons (c_if (t_tr (s_ix hu1 (s_v (i := 0) rfl (.inl rfl)) s_int (fun _ _ => rfl))) (c_cons (c_set (i := 3) nd rfl (.inl rfl) (s_intC (by rfl) B.int_ (s_pop0 (s_ix hu1 (s_v (i := 0) rfl (.inl rfl)) s_int (fun _ _ => rfl))))) (c_cons (c_if (t_ge  (s_v (i := 3) rfl (.inl rfl)) (s_v (i := 2) rfl (.inl rfl))) (c_one (c_expr (s_append (s_ix hu1 (s_v (i := 0) rfl (.inl rfl)) s_int (fun _ _ => rfl)) (s_ac (s_div (s_v (i := 3) rfl (.inl rfl)) (s_v (i := 2) rfl (.inl rfl))) s_an)))) c_nil) (c_one (c_ret (s_mod (s_v (i := 3) rfl (.inl rfl)) (s_v (i := 2) rfl (.inl rfl))))))) c_nil) (c_cons (c_put hu1 (s_v (i := 0) rfl (.inl rfl)) s_int (s_mod (s_intC (by rfl) B.int_ (s_add (s_add (s_mul (s_ix hu1 (s_v (i := 0) rfl (.inl rfl)) s_int (fun _ _ => rfl)) s_int) (s_mul (s_ix hu1 (s_v (i := 0) rfl (.inl rfl)) s_int (fun _ _ => rfl)) s_int)) (s_v (i := 1) rfl (.inl rfl)))) s_int)) (c_cons (c_set (i := 4) nd rfl (.inl rfl) (s_ix hu1 (s_ix hu1 (s_v (i := 0) rfl (.inl rfl)) s_int (fun _ _ => rfl)) (s_v (i := 1) rfl (.inl rfl)) (fun _ _ => rfl))) (c_cons (c_if (t_lt  (s_v (i := 4) rfl (.inl rfl)) s_int) (c_one (c_ret s_int)) c_nil) (c_cons (c_if (t_lt  (s_v (i := 4) rfl (.inl rfl)) s_int) (c_one (c_ret (s_sub (s_v (i := 2) rfl (.inl rfl)) s_int))) c_nil) (c_cons (c_if (t_lt  (s_v (i := 4) rfl (.inl rfl)) s_int) (c_one (c_ret (s_mod (s_intC (by rfl) B.int_ (s_add (s_mul (s_v (i := 4) rfl (.inl rfl)) s_int) s_int)) (s_v (i := 2) rfl (.inl rfl))))) c_nil) (c_one (c_ret (s_mod (s_intC (by rfl) B.int_ (s_div (s_ix hu1 (s_v (i := 0) rfl (.inl rfl)) s_int (fun _ _ => rfl)) s_int)) (s_v (i := 2) rfl (.inl rfl))))))))))))
theorem w9 (T : Tb K mg f fd) (B : Bt mg) (Fs : ∀ j, j < 20 → FnOk Pg w K mg base (L2.CX Pg w) k (f j) (fd j) (psOf j) (spF P K call j (psOf j).length)) (cdv : Value) (A : Around) (outer : List Env) (s : Shared) (H : Hp) (E : XK) (hr : Room k (A.deeper (envOfC "_law_weight" (defScope (top 12)) s.heap.objs.size (f 9) cdv))) :
    PSs (cxOf (L2.CX Pg w) Pg w K mg base ["scale", "great", "number"] "_law_weight" (defScope (top 12)) (f 9) cdv A outer s H E) (defBody (top 12)) (tS P K (fun cls d _ H => E cls d H) (B9 call)) := by
  have hu := Room.h64 hr
  have hu1 := Room.h1 hr
  have nd := sc9.nd
  have hp : PassesOwn (model Pg w) _ (cxOf (L2.CX Pg w) Pg w K mg base ["scale", "great", "number"] "_law_weight" (defScope (top 12)) (f 9) cdv A outer s H E).env (cxOf (L2.CX Pg w) Pg w K mg base ["scale", "great", "number"] "_law_weight" (defScope (top 12)) (f 9) cdv A outer s H E).xe := passes_of rfl
  have tk : Takes (cxOf (L2.CX Pg w) Pg w K mg base ["scale", "great", "number"] "_law_weight" (defScope (top 12)) (f 9) cdv A outer s H E) (fun cls d _ H => E cls d H) := takes_of rfl rfl rfl rfl
  exact (c_cons (c_set (i := 2) nd rfl (.inl rfl) (s_ix hu1 (s_tup (s_ac (s_sub (s_callH (Fs 8 (by decide)) tk hr (by rfl) T.g8 T.k8 T.b8 (by rfl) (by exact (al1 (al1 (al1 al0)))) (s_ac (s_v (i := 0) rfl (.inl rfl)) (s_ac s_int (s_ac s_int s_an)))) s_int) (s_ac (s_sub (s_callH (Fs 8 (by decide)) tk hr (by rfl) T.g8 T.k8 T.b8 (by rfl) (by exact (al1 (al1 (al1 al0)))) (s_ac (s_v (i := 0) rfl (.inl rfl)) (s_ac s_int (s_ac s_int s_an)))) s_int) (s_ac s_int s_an)))) (s_callH (Fs 8 (by decide)) tk hr (by rfl) T.g8 T.k8 T.b8 (by rfl) (by exact (al1 (al1 (al1 al0)))) (s_ac (s_v (i := 0) rfl (.inl rfl)) (s_ac s_int (s_ac s_int s_an)))) (fun _ _ => rfl))) (c_one (c_ret (s_ite (t_tr (s_v (i := 1) rfl (.inl rfl))) (s_add (s_mul (s_v (i := 2) rfl (.inl rfl)) (s_pow s_int s_int)) (s_callH (Fs 8 (by decide)) tk hr (by rfl) T.g8 T.k8 T.b8 (by rfl) (by exact (al1 (al1 (al1 al0)))) (s_ac (s_v (i := 0) rfl (.inl rfl)) (s_ac s_int (s_ac s_int s_an))))) (s_v (i := 2) rfl (.inl rfl))))))
theorem w10 (T : Tb K mg f fd) (B : Bt mg) (Fs : ∀ j, j < 20 → FnOk Pg w K mg base (L2.CX Pg w) k (f j) (fd j) (psOf j) (spF P K call j (psOf j).length)) (cdv : Value) (A : Around) (outer : List Env) (s : Shared) (H : Hp) (E : XK) (hr : Room k (A.deeper (envOfC "_law_edges" (defScope (top 13)) s.heap.objs.size (f 10) cdv))) :
    PSs (cxOf (L2.CX Pg w) Pg w K mg base ["scale", "many", "rows", "great", "marks", "edges", "lap", "one", "other", "spare", "k"] "_law_edges" (defScope (top 13)) (f 10) cdv A outer s H E) (defBody (top 13)) (tS P K (fun cls d _ H => E cls d H) (B10 call)) := by
  have hu := Room.h64 hr
  have hu1 := Room.h1 hr
  have nd := sc10.nd
  have hp : PassesOwn (model Pg w) _ (cxOf (L2.CX Pg w) Pg w K mg base ["scale", "many", "rows", "great", "marks", "edges", "lap", "one", "other", "spare", "k"] "_law_edges" (defScope (top 13)) (f 10) cdv A outer s H E).env (cxOf (L2.CX Pg w) Pg w K mg base ["scale", "many", "rows", "great", "marks", "edges", "lap", "one", "other", "spare", "k"] "_law_edges" (defScope (top 13)) (f 10) cdv A outer s H E).xe := passes_of rfl
  have tk : Takes (cxOf (L2.CX Pg w) Pg w K mg base ["scale", "many", "rows", "great", "marks", "edges", "lap", "one", "other", "spare", "k"] "_law_edges" (defScope (top 13)) (f 10) cdv A outer s H E) (fun cls d _ H => E cls d H) := takes_of rfl rfl rfl rfl
  exact (c_cons (c_setLc (i := 4) (own := [("k", 10)]) (tgOk_v (by decide)) rfl nd rfl rfl (sw_true rfl rfl rfl rfl) (i_rng1 (by rfl) B.range_ (s_v (i := 1) rfl (.inl rfl))) (blkOk_by rfl) (fun _ _ _ _ _ => (g_name (vs := [10]) nd rfl (.inl rfl) (by decide))) (fun _ _ _ _ _ => ts_nil) (fun _ _ _ _ _ => (s_callH (Fs 9 (by decide)) takes0 hr (by rfl) T.g9 T.k9 T.b9 (by rfl) (by exact (al1 (al1 al0))) (s_ac (s_v (i := 0) rfl (.inr (.inl rfl))) (s_ac (s_v (i := 3) rfl (.inr (.inl rfl))) s_an))))) (c_cons (c_set (i := 5) nd rfl (.inl rfl) (s_lst s_an)) (c_cons (c_for hp rfl (i_rng1 (by rfl) B.range_ (s_v (i := 2) rfl (.inl rfl))) (g_name (vs := [6]) nd rfl (.inl rfl) (by decide)) (c_cons (c_par (i := 7) (j := 8) rfl nd rfl rfl (by decide) rfl rfl (s_ac (s_callH (Fs 8 (by decide)) tk hr (by rfl) T.g8 T.k8 T.b8 (by rfl) (by exact (al1 (al1 (al1 al0)))) (s_ac (s_v (i := 0) rfl (.inr (.inl rfl))) (s_ac s_int (s_ac (s_v (i := 1) rfl (.inl rfl)) s_an)))) (s_ac (s_callH (Fs 8 (by decide)) tk hr (by rfl) T.g8 T.k8 T.b8 (by rfl) (by exact (al1 (al1 (al1 al0)))) (s_ac (s_v (i := 0) rfl (.inr (.inl rfl))) (s_ac s_int (s_ac (s_v (i := 1) rfl (.inl rfl)) s_an)))) s_an)) rfl) (c_cons (c_set (i := 9) nd rfl (.inl rfl) (s_ix hu1 (s_tup (s_ac s_int (s_ac s_int (s_ac (s_callH (Fs 8 (by decide)) tk hr (by rfl) T.g8 T.k8 T.b8 (by rfl) (by exact (al1 (al1 (al1 al0)))) (s_ac (s_v (i := 0) rfl (.inr (.inl rfl))) (s_ac s_int (s_ac s_int s_an)))) s_an)))) (s_callH (Fs 8 (by decide)) tk hr (by rfl) T.g8 T.k8 T.b8 (by rfl) (by exact (al1 (al1 (al1 al0)))) (s_ac (s_v (i := 0) rfl (.inr (.inl rfl))) (s_ac s_int (s_ac s_int s_an)))) (fun _ _ => rfl))) (c_one (c_expr (s_append (s_v (i := 5) rfl (.inl rfl)) (s_ac (s_tup (s_ac (s_v (i := 7) rfl (.inl rfl)) (s_ac (s_v (i := 8) rfl (.inl rfl)) (s_ac (s_add (s_sub (s_ix hu1 (s_v (i := 4) rfl (.inl rfl)) (s_v (i := 8) rfl (.inl rfl)) (fun _ _ => rfl)) (s_ix hu1 (s_v (i := 4) rfl (.inl rfl)) (s_v (i := 7) rfl (.inl rfl)) (fun _ _ => rfl))) (s_v (i := 9) rfl (.inl rfl))) s_an)))) s_an))))))) (c_one (c_ret (s_v (i := 5) rfl (.inl rfl)))))))
theorem w11 (T : Tb K mg f fd) (B : Bt mg) (Fs : ∀ j, j < 20 → FnOk Pg w K mg base (L2.CX Pg w) k (f j) (fd j) (psOf j) (spF P K call j (psOf j).length)) (cdv : Value) (A : Around) (outer : List Env) (s : Shared) (H : Hp) (E : XK) (hr : Room k (A.deeper (envOfC "_law_round" (defScope (top 14)) s.heap.objs.size (f 11) cdv))) :
    PSs (cxOf (L2.CX Pg w) Pg w K mg base ["scale", "many", "great", "total", "left", "row", "lap", "edges", "rest", "k", "weight"] "_law_round" (defScope (top 14)) (f 11) cdv A outer s H E) (defBody (top 14)) (tS P K (fun cls d _ H => E cls d H) (B11 call)) := by
  have hu := Room.h64 hr
  have hu1 := Room.h1 hr
  have nd := sc11.nd
  have hp : PassesOwn (model Pg w) _ (cxOf (L2.CX Pg w) Pg w K mg base ["scale", "many", "great", "total", "left", "row", "lap", "edges", "rest", "k", "weight"] "_law_round" (defScope (top 14)) (f 11) cdv A outer s H E).env (cxOf (L2.CX Pg w) Pg w K mg base ["scale", "many", "great", "total", "left", "row", "lap", "edges", "rest", "k", "weight"] "_law_round" (defScope (top 14)) (f 11) cdv A outer s H E).xe := passes_of rfl
  have tk : Takes (cxOf (L2.CX Pg w) Pg w K mg base ["scale", "many", "great", "total", "left", "row", "lap", "edges", "rest", "k", "weight"] "_law_round" (defScope (top 14)) (f 11) cdv A outer s H E) (fun cls d _ H => E cls d H) := takes_of rfl rfl rfl rfl
  exact (c_cons (c_set (i := 4) nd rfl (.inl rfl) (s_lrng rfl (by rfl) B.list_ (by rfl) B.range_ (s_v (i := 1) rfl (.inl rfl)))) (c_cons (c_set (i := 5) nd rfl (.inl rfl) (s_lst s_an)) (c_cons (c_for hp rfl (i_rng1 (by rfl) B.range_ (s_add s_int (s_callH (Fs 8 (by decide)) tk hr (by rfl) T.g8 T.k8 T.b8 (by rfl) (by exact (al1 (al1 (al1 al0)))) (s_ac (s_v (i := 0) rfl (.inl rfl)) (s_ac s_int (s_ac (s_v (i := 1) rfl (.inl rfl)) s_an)))))) (g_name (vs := [6]) nd rfl (.inl rfl) (by decide)) (c_one (c_expr (s_append (s_v (i := 5) rfl (.inl rfl)) (s_ac (s_pop1 (s_v (i := 4) rfl (.inl rfl)) (s_ac (s_callH (Fs 8 (by decide)) tk hr (by rfl) T.g8 T.k8 T.b8 (by rfl) (by exact (al1 (al1 (al1 al0)))) (s_ac (s_v (i := 0) rfl (.inl rfl)) (s_ac s_int (s_ac (s_len (by rfl) B.len_ (s_v (i := 4) rfl (.inl rfl))) s_an)))) s_an)) s_an))))) (c_cons (c_set (i := 7) nd rfl (.inl rfl) (s_lst s_an)) (c_cons (c_set (i := 8) nd rfl (.inl rfl) (s_v (i := 3) rfl (.inl rfl))) (c_cons (c_for hp rfl (i_rng1 (by rfl) B.range_ (s_len (by rfl) B.len_ (s_v (i := 5) rfl (.inl rfl)))) (g_name (vs := [9]) nd rfl (.inl rfl) (by decide)) (c_cons (c_set (i := 10) nd rfl (.inl rfl) (s_ite (t_lt  (s_add (s_v (i := 9) rfl (.inl rfl)) s_int) (s_len (by rfl) B.len_ (s_v (i := 5) rfl (.inl rfl)))) (s_callH (Fs 9 (by decide)) tk hr (by rfl) T.g9 T.k9 T.b9 (by rfl) (by exact (al1 (al1 al0))) (s_ac (s_v (i := 0) rfl (.inl rfl)) (s_ac (s_v (i := 2) rfl (.inl rfl)) s_an))) (s_v (i := 8) rfl (.inl rfl)))) (c_cons (c_set (i := 8) nd rfl (.inl rfl) (s_sub (s_v (i := 8) rfl (.inl rfl)) (s_v (i := 10) rfl (.inl rfl)))) (c_one (c_expr (s_append (s_v (i := 7) rfl (.inl rfl)) (s_ac (s_tup (s_ac (s_ix hu1 (s_v (i := 5) rfl (.inl rfl)) (s_v (i := 9) rfl (.inl rfl)) (fun _ _ => rfl)) (s_ac (s_ix hu1 (s_v (i := 5) rfl (.inl rfl)) (s_mod (s_intC (by rfl) B.int_ (s_add (s_v (i := 9) rfl (.inl rfl)) s_int)) (s_len (by rfl) B.len_ (s_v (i := 5) rfl (.inl rfl)))) (fun _ _ => rfl)) (s_ac (s_v (i := 10) rfl (.inl rfl)) s_an)))) s_an))))))) (c_one (c_ret (s_v (i := 7) rfl (.inl rfl))))))))))
theorem w12 (T : Tb K mg f fd) (B : Bt mg) (Fs : ∀ j, j < 20 → FnOk Pg w K mg base (L2.CX Pg w) k (f j) (fd j) (psOf j) (spF P K call j (psOf j).length)) (cdv : Value) (A : Around) (outer : List Env) (s : Shared) (H : Hp) (E : XK) (hr : Room k (A.deeper (envOfC "_law_settled" (defScope (top 15)) s.heap.objs.size (f 12) cdv))) :
    PSs (cxOf (L2.CX Pg w) Pg w K mg base ["many", "edges", "begins", "least", "lap", "moved", "one", "other", "weight"] "_law_settled" (defScope (top 15)) (f 12) cdv A outer s H E) (defBody (top 15)) (tS P K (fun cls d _ H => E cls d H) (B12 call)) := by
  have hu := Room.h64 hr
  have hu1 := Room.h1 hr
  have nd := sc12.nd
  have hp : PassesOwn (model Pg w) _ (cxOf (L2.CX Pg w) Pg w K mg base ["many", "edges", "begins", "least", "lap", "moved", "one", "other", "weight"] "_law_settled" (defScope (top 15)) (f 12) cdv A outer s H E).env (cxOf (L2.CX Pg w) Pg w K mg base ["many", "edges", "begins", "least", "lap", "moved", "one", "other", "weight"] "_law_settled" (defScope (top 15)) (f 12) cdv A outer s H E).xe := passes_of rfl
  have tk : Takes (cxOf (L2.CX Pg w) Pg w K mg base ["many", "edges", "begins", "least", "lap", "moved", "one", "other", "weight"] "_law_settled" (defScope (top 15)) (f 12) cdv A outer s H E) (fun cls d _ H => E cls d H) := takes_of rfl rfl rfl rfl
  exact (c_cons (c_set (i := 3) nd rfl (.inl rfl) (s_listC (by rfl) B.list_ (s_v (i := 2) rfl (.inl rfl)))) (c_cons (c_for hp rfl (i_rng1 (by rfl) B.range_ (s_add (s_v (i := 0) rfl (.inl rfl)) s_int)) (g_name (vs := [4]) nd rfl (.inl rfl) (by decide)) (c_cons (c_set (i := 5) nd rfl (.inl rfl) s_bl) (c_cons (c_for hp rfl (i_seq (s_v (i := 1) rfl (.inl rfl))) (g_tup rfl (gs_cons (g_name (vs := [6, 7, 8]) nd rfl (.inl rfl) (by decide)) (gs_cons (g_name (vs := [6, 7, 8]) nd rfl (.inl rfl) (by decide)) (gs_cons (g_name (vs := [6, 7, 8]) nd rfl (.inl rfl) (by decide)) gs_nil)))) (c_one (c_if (w_and (t_isnt  (s_ix hu1 (s_v (i := 3) rfl (.inl rfl)) (s_v (i := 6) rfl (.inl rfl)) (fun _ _ => rfl)) s_non) (w_and1 (w_or (t_is  (s_ix hu1 (s_v (i := 3) rfl (.inl rfl)) (s_v (i := 7) rfl (.inl rfl)) (fun _ _ => rfl)) s_non) (w_or1 (t_lt  (s_add (s_ix hu1 (s_v (i := 3) rfl (.inl rfl)) (s_v (i := 6) rfl (.inl rfl)) (fun _ _ => rfl)) (s_v (i := 8) rfl (.inl rfl))) (s_ix hu1 (s_v (i := 3) rfl (.inl rfl)) (s_v (i := 7) rfl (.inl rfl)) (fun _ _ => rfl))))).pt)).pt (c_cons (c_put hu1 (s_v (i := 3) rfl (.inl rfl)) (s_v (i := 7) rfl (.inl rfl)) (s_add (s_ix hu1 (s_v (i := 3) rfl (.inl rfl)) (s_v (i := 6) rfl (.inl rfl)) (fun _ _ => rfl)) (s_v (i := 8) rfl (.inl rfl)))) (c_one (c_set (i := 5) nd rfl (.inl rfl) s_bl))) c_nil))) (c_one (c_if (t_not (t_tr (s_v (i := 5) rfl (.inl rfl)))) (c_one (c_ret (s_tupC (by rfl) B.tuple_ (s_v (i := 3) rfl (.inl rfl))))) c_nil))))) (c_one (c_ret s_non))))
theorem w13 (T : Tb K mg f fd) (B : Bt mg) (Fs : ∀ j, j < 20 → FnOk Pg w K mg base (L2.CX Pg w) k (f j) (fd j) (psOf j) (spF P K call j (psOf j).length)) (cdv : Value) (A : Around) (outer : List Env) (s : Shared) (H : Hp) (E : XK) (hr : Room k (A.deeper (envOfC "_law_is_falling" (defScope (top 16)) s.heap.objs.size (f 13) cdv))) :
    PSs (cxOf (L2.CX Pg w) Pg w K mg base ["edges", "thing", "k", "at"] "_law_is_falling" (defScope (top 16)) (f 13) cdv A outer s H E) (defBody (top 16)) (tS P K (fun cls d _ H => E cls d H) (B13 call)) := by
  have hu := Room.h64 hr
  have hu1 := Room.h1 hr
  have nd := sc13.nd
  have hp : PassesOwn (model Pg w) _ (cxOf (L2.CX Pg w) Pg w K mg base ["edges", "thing", "k", "at"] "_law_is_falling" (defScope (top 16)) (f 13) cdv A outer s H E).env (cxOf (L2.CX Pg w) Pg w K mg base ["edges", "thing", "k", "at"] "_law_is_falling" (defScope (top 16)) (f 13) cdv A outer s H E).xe := passes_of rfl
  have tk : Takes (cxOf (L2.CX Pg w) Pg w K mg base ["edges", "thing", "k", "at"] "_law_is_falling" (defScope (top 16)) (f 13) cdv A outer s H E) (fun cls d _ H => E cls d H) := takes_of rfl rfl rfl rfl
  exact (c_cons (c_if (w_or (t_not (t_tr (s_isiTup (by rfl) B.isinstance_ (by rfl) B.tuple_ (s_v (i := 1) rfl (.inl rfl))))) (w_or (t_eq hu (s_len (by rfl) B.len_ (s_v (i := 1) rfl (.inl rfl))) s_int) (w_or1 (t_gt  (s_len (by rfl) B.len_ (s_v (i := 1) rfl (.inl rfl))) (s_len (by rfl) B.len_ (s_v (i := 0) rfl (.inr (.inl rfl)))))))).pt (c_one (c_ret s_bl)) c_nil) (c_cons (c_if (t_gt  (s_len (by rfl) B.len_ (s_lc (own := [("at", 3)]) (tgOk_v (by decide)) rfl nd (i_seq (s_v (i := 1) rfl (.inl rfl))) (blkOk_by rfl) (fun _ _ _ _ _ => (g_name (vs := [3]) nd rfl (.inl rfl) (by decide))) (fun _ _ _ _ _ => (ts_one (w_or (t_not (t_tr (s_isiInt (by rfl) B.isinstance_ (by rfl) B.int_ (s_v (i := 3) rfl (.inl rfl))))) (w_or (t_tr (s_isiBool (by rfl) B.isinstance_ (by rfl) B.bool_ (s_v (i := 3) rfl (.inl rfl)))) (w_or1 (t_not (t_chain op_le op_lt (cmpI_S fun _ _ => rfl) (cmpI_S fun _ _ => rfl) bo_cmpI bo_cmpI s_int (s_v (i := 3) rfl (.inl rfl)) (s_len (by rfl) B.len_ (s_v (i := 0) rfl (.inr (.inl rfl))))))))).pt)) (fun _ _ _ _ _ => (s_v (i := 3) rfl (.inl rfl))))) s_int) (c_one (c_ret s_bl)) c_nil) (c_cons (c_if (t_lt  (s_lset rfl (by rfl) B.len_ (by rfl) B.set_ (s_v (i := 1) rfl (.inl rfl))) (s_len (by rfl) B.len_ (s_v (i := 1) rfl (.inl rfl)))) (c_one (c_ret s_bl)) c_nil) (c_cons (c_for hp rfl (i_rng1 (by rfl) B.range_ (s_len (by rfl) B.len_ (s_v (i := 1) rfl (.inl rfl)))) (g_name (vs := [2]) nd rfl (.inl rfl) (by decide)) (c_one (c_if (t_ne hu (s_ix hu1 (s_ix hu1 (s_v (i := 0) rfl (.inr (.inl rfl))) (s_ix hu1 (s_v (i := 1) rfl (.inl rfl)) (s_sub (s_v (i := 2) rfl (.inl rfl)) s_int) (fun _ _ => rfl)) (fun _ _ => rfl)) s_int (fun _ _ => rfl)) (s_ix hu1 (s_ix hu1 (s_v (i := 0) rfl (.inr (.inl rfl))) (s_ix hu1 (s_v (i := 1) rfl (.inl rfl)) (s_v (i := 2) rfl (.inl rfl)) (fun _ _ => rfl)) (fun _ _ => rfl)) s_int (fun _ _ => rfl))) (c_one (c_ret s_bl)) c_nil))) (c_one (c_ret (s_lt  (s_sum rfl (by rfl) B.sum_ (s_lc (own := [("at", 3)]) (tgOk_v (by decide)) rfl nd (i_seq (s_v (i := 1) rfl (.inl rfl))) (blkOk_by rfl) (fun _ _ _ _ _ => (g_name (vs := [3]) nd rfl (.inl rfl) (by decide))) (fun _ _ _ _ _ => ts_nil) (fun _ _ _ _ _ => (s_ix hu1 (s_ix hu1 (s_v (i := 0) rfl (.inr (.inl rfl))) (s_v (i := 3) rfl (.inl rfl)) (fun _ _ => rfl)) s_int (fun _ _ => rfl))))) s_int)))))))
theorem w14 (T : Tb K mg f fd) (B : Bt mg) (Fs : ∀ j, j < 20 → FnOk Pg w K mg base (L2.CX Pg w) k (f j) (fd j) (psOf j) (spF P K call j (psOf j).length)) (cdv : Value) (A : Around) (outer : List Env) (s : Shared) (H : Hp) (E : XK) (hr : Room k (A.deeper (envOfC "_law_are_potentials" (defScope (top 17)) s.heap.objs.size (f 14) cdv))) :
    PSs (cxOf (L2.CX Pg w) Pg w K mg base ["many", "edges", "thing", "one", "other", "weight"] "_law_are_potentials" (defScope (top 17)) (f 14) cdv A outer s H E) (defBody (top 17)) (tS P K (fun cls d _ H => E cls d H) (B14 call)) := by
  have hu := Room.h64 hr
  have hu1 := Room.h1 hr
  have nd := sc14.nd
  have hp : PassesOwn (model Pg w) _ (cxOf (L2.CX Pg w) Pg w K mg base ["many", "edges", "thing", "one", "other", "weight"] "_law_are_potentials" (defScope (top 17)) (f 14) cdv A outer s H E).env (cxOf (L2.CX Pg w) Pg w K mg base ["many", "edges", "thing", "one", "other", "weight"] "_law_are_potentials" (defScope (top 17)) (f 14) cdv A outer s H E).xe := passes_of rfl
  have tk : Takes (cxOf (L2.CX Pg w) Pg w K mg base ["many", "edges", "thing", "one", "other", "weight"] "_law_are_potentials" (defScope (top 17)) (f 14) cdv A outer s H E) (fun cls d _ H => E cls d H) := takes_of rfl rfl rfl rfl
  exact (c_cons (c_if (w_or (t_not (t_tr (s_isiTup (by rfl) B.isinstance_ (by rfl) B.tuple_ (s_v (i := 2) rfl (.inr (.inl rfl)))))) (w_or1 (t_ne hu (s_len (by rfl) B.len_ (s_v (i := 2) rfl (.inr (.inl rfl)))) (s_v (i := 0) rfl (.inl rfl))))).pt (c_one (c_ret s_bl)) c_nil) (c_cons (c_if (t_gt  (s_len (by rfl) B.len_ (s_lc (own := [("one", 3)]) (tgOk_v (by decide)) rfl nd (i_seq (s_v (i := 2) rfl (.inr (.inl rfl)))) (blkOk_by rfl) (fun _ _ _ _ _ => (g_name (vs := [3]) nd rfl (.inl rfl) (by decide))) (fun _ _ _ _ _ => (ts_one (w_or (t_not (t_tr (s_isiInt (by rfl) B.isinstance_ (by rfl) B.int_ (s_v (i := 3) rfl (.inl rfl))))) (w_or1 (t_tr (s_isiBool (by rfl) B.isinstance_ (by rfl) B.bool_ (s_v (i := 3) rfl (.inl rfl)))))).pt)) (fun _ _ _ _ _ => (s_v (i := 3) rfl (.inl rfl))))) s_int) (c_one (c_ret s_bl)) c_nil) (c_one (c_ret (s_eq hu (s_len (by rfl) B.len_ (s_lc (own := [("one", 3), ("other", 4), ("weight", 5)]) (tgOk_t (List.forall_mem_cons.mpr ⟨(tgOk_v (by decide)), (List.forall_mem_cons.mpr ⟨(tgOk_v (by decide)), (List.forall_mem_cons.mpr ⟨(tgOk_v (by decide)), List.forall_mem_nil _⟩)⟩)⟩)) rfl nd (i_seq (s_v (i := 1) rfl (.inl rfl))) (blkOk_by rfl) (fun _ _ _ _ _ => (g_tup rfl (gs_cons (g_name (vs := [3, 4, 5]) nd rfl (.inl rfl) (by decide)) (gs_cons (g_name (vs := [3, 4, 5]) nd rfl (.inl rfl) (by decide)) (gs_cons (g_name (vs := [3, 4, 5]) nd rfl (.inl rfl) (by decide)) gs_nil))))) (fun _ _ _ _ _ => (ts_one (t_lt  (s_add (s_v (i := 5) rfl (.inl rfl)) (s_ix hu1 (s_v (i := 2) rfl (.inr (.inl rfl))) (s_v (i := 3) rfl (.inl rfl)) (fun _ _ => rfl))) (s_ix hu1 (s_v (i := 2) rfl (.inr (.inl rfl))) (s_v (i := 4) rfl (.inl rfl)) (fun _ _ => rfl))))) (fun _ _ _ _ _ => s_int))) s_int)))))
theorem w15 (T : Tb K mg f fd) (B : Bt mg) (Fs : ∀ j, j < 20 → FnOk Pg w K mg base (L2.CX Pg w) k (f j) (fd j) (psOf j) (spF P K call j (psOf j).length)) (cdv : Value) (A : Around) (outer : List Env) (s : Shared) (H : Hp) (E : XK) (hr : Room k (A.deeper (envOfC "_law_same" (defScope (top 18)) s.heap.objs.size (f 15) cdv))) :
    PSs (cxOf (L2.CX Pg w) Pg w K mg base ["told", "due", "k"] "_law_same" (defScope (top 18)) (f 15) cdv A outer s H E) (defBody (top 18)) (tS P K (fun cls d _ H => E cls d H) (B15 call)) := by
  have hu := Room.h64 hr
  have hu1 := Room.h1 hr
  have nd := sc15.nd
  have hp : PassesOwn (model Pg w) _ (cxOf (L2.CX Pg w) Pg w K mg base ["told", "due", "k"] "_law_same" (defScope (top 18)) (f 15) cdv A outer s H E).env (cxOf (L2.CX Pg w) Pg w K mg base ["told", "due", "k"] "_law_same" (defScope (top 18)) (f 15) cdv A outer s H E).xe := passes_of rfl
  have tk : Takes (cxOf (L2.CX Pg w) Pg w K mg base ["told", "due", "k"] "_law_same" (defScope (top 18)) (f 15) cdv A outer s H E) (fun cls d _ H => E cls d H) := takes_of rfl rfl rfl rfl
  exact (c_cons (c_if (w_or (t_not (t_tr (s_isiTup (by rfl) B.isinstance_ (by rfl) B.tuple_ (s_v (i := 0) rfl (.inl rfl))))) (w_or1 (t_ne hu (s_len (by rfl) B.len_ (s_v (i := 0) rfl (.inl rfl))) (s_len (by rfl) B.len_ (s_v (i := 1) rfl (.inl rfl)))))).pt (c_one (c_ret s_bl)) c_nil) (c_cons (c_for hp rfl (i_rng1 (by rfl) B.range_ (s_len (by rfl) B.len_ (s_v (i := 1) rfl (.inl rfl)))) (g_name (vs := [2]) nd rfl (.inl rfl) (by decide)) (c_one (c_if (t_is  (s_ix hu1 (s_v (i := 1) rfl (.inl rfl)) (s_v (i := 2) rfl (.inl rfl)) (fun _ _ => rfl)) s_non) (c_one (c_if (t_isnt  (s_ix hu1 (s_v (i := 0) rfl (.inl rfl)) (s_v (i := 2) rfl (.inl rfl)) (fun _ _ => rfl)) s_non) (c_one (c_ret s_bl)) c_nil)) (c_one (c_if (w_or (t_not (t_tr (s_isiInt (by rfl) B.isinstance_ (by rfl) B.int_ (s_ix hu1 (s_v (i := 0) rfl (.inl rfl)) (s_v (i := 2) rfl (.inl rfl)) (fun _ _ => rfl))))) (w_or (t_tr (s_isiBool (by rfl) B.isinstance_ (by rfl) B.bool_ (s_ix hu1 (s_v (i := 0) rfl (.inl rfl)) (s_v (i := 2) rfl (.inl rfl)) (fun _ _ => rfl)))) (w_or1 (t_ne hu (s_ix hu1 (s_v (i := 0) rfl (.inl rfl)) (s_v (i := 2) rfl (.inl rfl)) (fun _ _ => rfl)) (s_ix hu1 (s_v (i := 1) rfl (.inl rfl)) (s_v (i := 2) rfl (.inl rfl)) (fun _ _ => rfl)))))).pt (c_one (c_ret s_bl)) c_nil))))) (c_one (c_ret s_bl))))
theorem w16 (T : Tb K mg f fd) (B : Bt mg) (Fs : ∀ j, j < 20 → FnOk Pg w K mg base (L2.CX Pg w) k (f j) (fd j) (psOf j) (spF P K call j (psOf j).length)) (cdv : Value) (A : Around) (outer : List Env) (s : Shared) (H : Hp) (E : XK) (hr : Room k (A.deeper (envOfC "_law_bool" (defScope (top 19)) s.heap.objs.size (f 16) cdv))) :
    PSs (cxOf (L2.CX Pg w) Pg w K mg base ["told", "due"] "_law_bool" (defScope (top 19)) (f 16) cdv A outer s H E) (defBody (top 19)) (tS P K (fun cls d _ H => E cls d H) (B16 call)) := by
  have hu := Room.h64 hr
  have hu1 := Room.h1 hr
  have nd := sc16.nd
  have hp : PassesOwn (model Pg w) _ (cxOf (L2.CX Pg w) Pg w K mg base ["told", "due"] "_law_bool" (defScope (top 19)) (f 16) cdv A outer s H E).env (cxOf (L2.CX Pg w) Pg w K mg base ["told", "due"] "_law_bool" (defScope (top 19)) (f 16) cdv A outer s H E).xe := passes_of rfl
  have tk : Takes (cxOf (L2.CX Pg w) Pg w K mg base ["told", "due"] "_law_bool" (defScope (top 19)) (f 16) cdv A outer s H E) (fun cls d _ H => E cls d H) := takes_of rfl rfl rfl rfl
  exact (c_one (c_ret (s_and (s_isiBool (by rfl) B.isinstance_ (by rfl) B.bool_ (s_v (i := 0) rfl (.inl rfl))) (s_one (s_eq hu (s_v (i := 0) rfl (.inl rfl)) (s_v (i := 1) rfl (.inl rfl)))))))
theorem w17 (T : Tb K mg f fd) (B : Bt mg) (Fs : ∀ j, j < 20 → FnOk Pg w K mg base (L2.CX Pg w) k (f j) (fd j) (psOf j) (spF P K call j (psOf j).length)) (cdv : Value) (A : Around) (outer : List Env) (s : Shared) (H : Hp) (E : XK) (hr : Room k (A.deeper (envOfC "_law_asked" (defScope (top 20)) s.heap.objs.size (f 17) cdv))) :
    PSs (cxOf (L2.CX Pg w) Pg w K mg base ["scale", "many", "edges", "counts", "settled", "told", "base", "starts", "start", "begins", "at", "things", "odd", "thing", "one", "other", "back", "more", "falls", "longer", "k"] "_law_asked" (defScope (top 20)) (f 17) cdv A outer s H E) (defBody (top 20)) (tS P K (fun cls d _ H => E cls d H) (B17 call)) := by
  have hu := Room.h64 hr
  have hu1 := Room.h1 hr
  have nd := sc17.nd
  have hp : PassesOwn (model Pg w) _ (cxOf (L2.CX Pg w) Pg w K mg base ["scale", "many", "edges", "counts", "settled", "told", "base", "starts", "start", "begins", "at", "things", "odd", "thing", "one", "other", "back", "more", "falls", "longer", "k"] "_law_asked" (defScope (top 20)) (f 17) cdv A outer s H E).env (cxOf (L2.CX Pg w) Pg w K mg base ["scale", "many", "edges", "counts", "settled", "told", "base", "starts", "start", "begins", "at", "things", "odd", "thing", "one", "other", "back", "more", "falls", "longer", "k"] "_law_asked" (defScope (top 20)) (f 17) cdv A outer s H E).xe := passes_of rfl
  have tk : Takes (cxOf (L2.CX Pg w) Pg w K mg base ["scale", "many", "edges", "counts", "settled", "told", "base", "starts", "start", "begins", "at", "things", "odd", "thing", "one", "other", "back", "more", "falls", "longer", "k"] "_law_asked" (defScope (top 20)) (f 17) cdv A outer s H E) (fun cls d _ H => E cls d H) := takes_of rfl rfl rfl rfl
  exact (c_cons (c_set (i := 4) nd rfl (.inl rfl) (s_callH (Fs 12 (by decide)) tk hr (by rfl) T.g12 T.k12 T.b12 (by rfl) (by exact (al1 (al1 (al1 al0)))) (s_ac (s_v (i := 1) rfl (.inl rfl)) (s_ac (s_v (i := 2) rfl (.inl rfl)) (s_ac (s_mul (s_lst (s_ac s_int s_an)) (s_v (i := 1) rfl (.inl rfl))) s_an))))) (c_cons (c_put hu1 (s_v (i := 3) rfl (.inl rfl)) (s_intC (by rfl) B.int_ (s_is  (s_v (i := 4) rfl (.inl rfl)) s_non)) (s_add (s_ix hu1 (s_v (i := 3) rfl (.inl rfl)) (s_intC (by rfl) B.int_ (s_is  (s_v (i := 4) rfl (.inl rfl)) s_non)) (fun _ _ => rfl)) s_int)) (c_cons (c_set (i := 5) nd rfl (.inl rfl) (s_callH (Fs 4 (by decide)) tk hr (by rfl) T.g4 T.k4 T.b4 (by rfl) (by exact (al1 (al1 al0))) (s_ac (s_v (i := 1) rfl (.inl rfl)) (s_ac (s_v (i := 2) rfl (.inl rfl)) s_an)))) (c_cons (c_if (t_is  (s_v (i := 4) rfl (.inl rfl)) s_non) (c_cons (c_if (t_not (t_tr (s_callH (Fs 13 (by decide)) tk hr (by rfl) T.g13 T.k13 T.b13 (by rfl) (by exact (al1 (al1 al0))) (s_ac (s_v (i := 2) rfl (.inl rfl)) (s_ac (s_v (i := 5) rfl (.inl rfl)) s_an))))) (c_one (c_ret s_bl)) c_nil) (c_cons (c_set (i := 6) nd rfl (.inl rfl) (s_tupC (by rfl) B.tuple_ (s_lc (own := [("k", 20)]) (tgOk_v (by decide)) rfl nd (i_rng1 (by rfl) B.range_ (s_v (i := 1) rfl (.inl rfl))) (blkOk_by rfl) (fun _ _ _ _ _ => (g_name (vs := [20]) nd rfl (.inl rfl) (by decide))) (fun _ _ _ _ _ => ts_nil) (fun _ _ _ _ _ => (s_sub (s_callH (Fs 8 (by decide)) takes0 hr (by rfl) T.g8 T.k8 T.b8 (by rfl) (by exact (al1 (al1 (al1 al0)))) (s_ac (s_v (i := 0) rfl (.inr (.inl rfl))) (s_ac s_int (s_ac s_int s_an)))) s_int))))) (c_one (c_ret (s_and (s_callH (Fs 16 (by decide)) tk hr (by rfl) T.g16 T.k16 T.b16 (by rfl) (by exact (al1 (al1 al0))) (s_ac (s_callH (Fs 6 (by decide)) tk hr (by rfl) T.g6 T.k6 T.b6 (by rfl) (by exact (al1 (al1 (al1 al0)))) (s_ac (s_v (i := 1) rfl (.inl rfl)) (s_ac (s_v (i := 2) rfl (.inl rfl)) (s_ac (s_v (i := 6) rfl (.inl rfl)) s_an)))) (s_ac s_bl s_an))) (s_one (s_callH (Fs 16 (by decide)) tk hr (by rfl) T.g16 T.k16 T.b16 (by rfl) (by exact (al1 (al1 al0))) (s_ac (s_callH (Fs 6 (by decide)) tk hr (by rfl) T.g6 T.k6 T.b6 (by rfl) (by exact (al1 (al1 (al1 al0)))) (s_ac (s_v (i := 1) rfl (.inl rfl)) (s_ac (s_v (i := 2) rfl (.inl rfl)) (s_ac (s_mul (s_tup (s_ac s_int s_an)) (s_v (i := 1) rfl (.inl rfl))) s_an)))) (s_ac s_bl s_an))))))))) c_nil) (c_cons (c_if (w_or (t_isnt  (s_v (i := 5) rfl (.inl rfl)) s_non) (w_or1 (t_not (t_tr (s_callH (Fs 16 (by decide)) tk hr (by rfl) T.g16 T.k16 T.b16 (by rfl) (by exact (al1 (al1 al0))) (s_ac (s_callH (Fs 6 (by decide)) tk hr (by rfl) T.g6 T.k6 T.b6 (by rfl) (by exact (al1 (al1 (al1 al0)))) (s_ac (s_v (i := 1) rfl (.inl rfl)) (s_ac (s_v (i := 2) rfl (.inl rfl)) (s_ac (s_v (i := 4) rfl (.inl rfl)) s_an)))) (s_ac s_bl s_an))))))).pt (c_one (c_ret s_bl)) c_nil) (c_cons (c_set (i := 7) nd rfl (.inl rfl) (s_lst (s_ac s_int (s_ac (s_sub (s_v (i := 1) rfl (.inl rfl)) s_int) (s_ac (s_callH (Fs 8 (by decide)) tk hr (by rfl) T.g8 T.k8 T.b8 (by rfl) (by exact (al1 (al1 (al1 al0)))) (s_ac (s_v (i := 0) rfl (.inr (.inl rfl))) (s_ac s_int (s_ac (s_v (i := 1) rfl (.inl rfl)) s_an)))) s_an))))) (c_cons (c_for hp rfl (i_seq (s_v (i := 7) rfl (.inl rfl))) (g_name (vs := [8]) nd rfl (.inl rfl) (by decide)) (c_cons (c_set (i := 9) nd rfl (.inl rfl) (s_mul (s_lst (s_ac s_non s_an)) (s_v (i := 1) rfl (.inl rfl)))) (c_cons (c_put hu1 (s_v (i := 9) rfl (.inl rfl)) (s_v (i := 8) rfl (.inl rfl)) s_int) (c_one (c_if (t_not (t_tr (s_callH (Fs 15 (by decide)) tk hr (by rfl) T.g15 T.k15 T.b15 (by rfl) (by exact (al1 (al1 al0))) (s_ac (s_callH (Fs 5 (by decide)) tk hr (by rfl) T.g5 T.k5 T.b5 (by rfl) (by exact (al1 (al1 (al1 al0)))) (s_ac (s_v (i := 1) rfl (.inl rfl)) (s_ac (s_v (i := 2) rfl (.inl rfl)) (s_ac (s_v (i := 8) rfl (.inl rfl)) s_an)))) (s_ac (s_callH (Fs 12 (by decide)) tk hr (by rfl) T.g12 T.k12 T.b12 (by rfl) (by exact (al1 (al1 (al1 al0)))) (s_ac (s_v (i := 1) rfl (.inl rfl)) (s_ac (s_v (i := 2) rfl (.inl rfl)) (s_ac (s_v (i := 9) rfl (.inl rfl)) s_an)))) s_an))))) (c_one (c_ret s_bl)) c_nil))))) (c_cons (c_set (i := 10) nd rfl (.inl rfl) (s_callH (Fs 8 (by decide)) tk hr (by rfl) T.g8 T.k8 T.b8 (by rfl) (by exact (al1 (al1 (al1 al0)))) (s_ac (s_v (i := 0) rfl (.inr (.inl rfl))) (s_ac s_int (s_ac (s_v (i := 1) rfl (.inl rfl)) s_an))))) (c_cons (c_set (i := 11) nd rfl (.inl rfl) (s_lst (s_ac (s_tupC (by rfl) B.tuple_ (s_lc (own := [("one", 14)]) (tgOk_v (by decide)) rfl nd (i_seq (s_v (i := 4) rfl (.inl rfl))) (blkOk_by rfl) (fun _ _ _ _ _ => (g_name (vs := [14]) nd rfl (.inl rfl) (by decide))) (fun _ _ _ _ _ => ts_nil) (fun _ _ _ _ _ => (s_add (s_v (i := 14) rfl (.inl rfl)) (s_pow s_int s_int))))) (s_ac (s_tupC (by rfl) B.tuple_ (s_lc (own := [("one", 14)]) (tgOk_v (by decide)) rfl nd (i_seq (s_v (i := 4) rfl (.inl rfl))) (blkOk_by rfl) (fun _ _ _ _ _ => (g_name (vs := [14]) nd rfl (.inl rfl) (by decide))) (fun _ _ _ _ _ => ts_nil) (fun _ _ _ _ _ => (s_sub s_int (s_v (i := 14) rfl (.inl rfl)))))) (s_ac (s_mul (s_tup (s_ac s_int s_an)) (s_v (i := 1) rfl (.inl rfl))) (s_ac (s_listC (by rfl) B.list_ (s_v (i := 4) rfl (.inl rfl))) (s_ac (s_sl (s_v (i := 4) rfl (.inl rfl)) o_none (o_some (s_neg s_int))) (s_ac (s_add (s_v (i := 4) rfl (.inl rfl)) (s_tup (s_ac s_int s_an))) (s_ac s_non (s_ac s_int (s_ac (s_str (by decide +kernel) (by decide)) (s_ac (s_tupC (by rfl) B.tuple_ (s_lc (own := [("one", 14)]) (tgOk_v (by decide)) rfl nd (i_seq (s_v (i := 4) rfl (.inl rfl))) (blkOk_by rfl) (fun _ _ _ _ _ => (g_name (vs := [14]) nd rfl (.inl rfl) (by decide))) (fun _ _ _ _ _ => ts_nil) (fun _ _ _ _ _ => (s_eq hu (s_v (i := 14) rfl (.inl rfl)) s_int)))) (s_ac (s_tup (s_ac (s_v (i := 4) rfl (.inl rfl)) s_an)) s_an))))))))))))) (c_cons (c_for hp rfl (i_seq (s_tup (s_ac (s_add (s_ix hu1 (s_v (i := 4) rfl (.inl rfl)) (s_v (i := 10) rfl (.inl rfl)) (fun _ _ => rfl)) s_int) (s_ac (s_sub (s_ix hu1 (s_v (i := 4) rfl (.inl rfl)) (s_v (i := 10) rfl (.inl rfl)) (fun _ _ => rfl)) s_int) (s_ac (s_sub (s_ix hu1 (s_v (i := 4) rfl (.inl rfl)) (s_v (i := 10) rfl (.inl rfl)) (fun _ _ => rfl)) (s_pow s_int s_int)) (s_ac s_non (s_ac (s_strC (by rfl) B.str_ (s_ix hu1 (s_v (i := 4) rfl (.inl rfl)) (s_v (i := 10) rfl (.inl rfl)) (fun _ _ => rfl))) (s_ac (s_tup (s_ac (s_ix hu1 (s_v (i := 4) rfl (.inl rfl)) (s_v (i := 10) rfl (.inl rfl)) (fun _ _ => rfl)) s_an)) (s_ac s_bl (s_ac s_bl s_an)))))))))) (g_name (vs := [12]) nd rfl (.inl rfl) (by decide)) (c_one (c_expr (s_append (s_v (i := 11) rfl (.inl rfl)) (s_ac (s_add (s_add (s_sl (s_v (i := 4) rfl (.inl rfl)) o_none (o_some (s_v (i := 10) rfl (.inl rfl)))) (s_tup (s_ac (s_v (i := 12) rfl (.inl rfl)) s_an))) (s_sl (s_v (i := 4) rfl (.inl rfl)) (o_some (s_add (s_v (i := 10) rfl (.inl rfl)) s_int)) o_none)) s_an))))) (c_cons (c_for hp rfl (i_seq (s_v (i := 11) rfl (.inl rfl))) (g_name (vs := [13]) nd rfl (.inl rfl) (by decide)) (c_one (c_if (t_not (t_tr (s_callH (Fs 16 (by decide)) tk hr (by rfl) T.g16 T.k16 T.b16 (by rfl) (by exact (al1 (al1 al0))) (s_ac (s_callH (Fs 6 (by decide)) tk hr (by rfl) T.g6 T.k6 T.b6 (by rfl) (by exact (al1 (al1 (al1 al0)))) (s_ac (s_v (i := 1) rfl (.inl rfl)) (s_ac (s_v (i := 2) rfl (.inl rfl)) (s_ac (s_v (i := 13) rfl (.inl rfl)) s_an)))) (s_ac (s_callH (Fs 14 (by decide)) tk hr (by rfl) T.g14 T.k14 T.b14 (by rfl) (by exact (al1 (al1 (al1 al0)))) (s_ac (s_v (i := 1) rfl (.inl rfl)) (s_ac (s_v (i := 2) rfl (.inl rfl)) (s_ac (s_v (i := 13) rfl (.inl rfl)) s_an)))) s_an))))) (c_one (c_ret s_bl)) c_nil))) (c_cons (c_par (i := 14) (j := 15) rfl nd rfl rfl (by decide) rfl rfl (s_ac (s_callH (Fs 8 (by decide)) tk hr (by rfl) T.g8 T.k8 T.b8 (by rfl) (by exact (al1 (al1 (al1 al0)))) (s_ac (s_v (i := 0) rfl (.inr (.inl rfl))) (s_ac s_int (s_ac (s_v (i := 1) rfl (.inl rfl)) s_an)))) (s_ac (s_callH (Fs 8 (by decide)) tk hr (by rfl) T.g8 T.k8 T.b8 (by rfl) (by exact (al1 (al1 (al1 al0)))) (s_ac (s_v (i := 0) rfl (.inr (.inl rfl))) (s_ac s_int (s_ac (s_v (i := 1) rfl (.inl rfl)) s_an)))) s_an)) rfl) (c_cons (c_set (i := 9) nd rfl (.inl rfl) (s_mul (s_lst (s_ac s_non s_an)) (s_v (i := 1) rfl (.inl rfl)))) (c_cons (c_put hu1 (s_v (i := 9) rfl (.inl rfl)) (s_v (i := 14) rfl (.inl rfl)) s_int) (c_cons (c_set (i := 16) nd rfl (.inl rfl) (s_ix hu1 (s_callH (Fs 12 (by decide)) tk hr (by rfl) T.g12 T.k12 T.b12 (by rfl) (by exact (al1 (al1 (al1 al0)))) (s_ac (s_v (i := 1) rfl (.inl rfl)) (s_ac (s_v (i := 2) rfl (.inl rfl)) (s_ac (s_v (i := 9) rfl (.inl rfl)) s_an)))) (s_v (i := 15) rfl (.inl rfl)) (fun _ _ => rfl))) (c_cons (c_if (t_is  (s_v (i := 16) rfl (.inl rfl)) s_non) (c_one (c_ret s_bl)) c_nil) (c_cons (c_for hp rfl (i_seq (s_tup (s_ac (s_tup (s_ac s_int (s_ac s_bl s_an))) (s_ac (s_tup (s_ac (s_neg s_int) (s_ac s_bl s_an))) s_an)))) (g_tup rfl (gs_cons (g_name (vs := [17, 18]) nd rfl (.inl rfl) (by decide)) (gs_cons (g_name (vs := [17, 18]) nd rfl (.inl rfl) (by decide)) gs_nil))) (c_cons (c_set (i := 19) nd rfl (.inl rfl) (s_add (s_v (i := 2) rfl (.inl rfl)) (s_tup (s_ac (s_tup (s_ac (s_v (i := 15) rfl (.inl rfl)) (s_ac (s_v (i := 14) rfl (.inl rfl)) (s_ac (s_sub (s_v (i := 17) rfl (.inl rfl)) (s_v (i := 16) rfl (.inl rfl))) s_an)))) s_an)))) (c_cons (c_set (i := 5) nd rfl (.inl rfl) (s_callH (Fs 4 (by decide)) tk hr (by rfl) T.g4 T.k4 T.b4 (by rfl) (by exact (al1 (al1 al0))) (s_ac (s_v (i := 1) rfl (.inl rfl)) (s_ac (s_v (i := 19) rfl (.inl rfl)) s_an)))) (c_one (c_if (w_or (t_ne hu (s_v (i := 18) rfl (.inl rfl)) (s_isnt  (s_v (i := 5) rfl (.inl rfl)) s_non)) (w_or1 (w_and (t_tr (s_v (i := 18) rfl (.inl rfl))) (w_and1 (t_not (t_tr (s_callH (Fs 13 (by decide)) tk hr (by rfl) T.g13 T.k13 T.b13 (by rfl) (by exact (al1 (al1 al0))) (s_ac (s_v (i := 19) rfl (.inl rfl)) (s_ac (s_v (i := 5) rfl (.inl rfl)) s_an))))))).pt)).pt (c_one (c_ret s_bl)) c_nil))))) (c_one (c_ret s_bl)))))))))))))))))))
theorem w18 (T : Tb K mg f fd) (B : Bt mg) (Fs : ∀ j, j < 20 → FnOk Pg w K mg base (L2.CX Pg w) k (f j) (fd j) (psOf j) (spF P K call j (psOf j).length)) (cdv : Value) (A : Around) (outer : List Env) (s : Shared) (H : Hp) (E : XK) (hr : Room k (A.deeper (envOfC "_law_by_hand" (defScope (top 21)) s.heap.objs.size (f 18) cdv))) :
    PSs (cxOf (L2.CX Pg w) Pg w K mg base ["told", "rows", "one", "due", "looks", "many", "edges", "thing"] "_law_by_hand" (defScope (top 21)) (f 18) cdv A outer s H E) (defBody (top 21)) (tS P K (fun cls d _ H => E cls d H) (B18 call)) := by
  have hu := Room.h64 hr
  have hu1 := Room.h1 hr
  have nd := sc18.nd
  have hp : PassesOwn (model Pg w) _ (cxOf (L2.CX Pg w) Pg w K mg base ["told", "rows", "one", "due", "looks", "many", "edges", "thing"] "_law_by_hand" (defScope (top 21)) (f 18) cdv A outer s H E).env (cxOf (L2.CX Pg w) Pg w K mg base ["told", "rows", "one", "due", "looks", "many", "edges", "thing"] "_law_by_hand" (defScope (top 21)) (f 18) cdv A outer s H E).xe := passes_of rfl
  have tk : Takes (cxOf (L2.CX Pg w) Pg w K mg base ["told", "rows", "one", "due", "looks", "many", "edges", "thing"] "_law_by_hand" (defScope (top 21)) (f 18) cdv A outer s H E) (fun cls d _ H => E cls d H) := takes_of rfl rfl rfl rfl
  exact (c_cons (c_set (i := 0) nd rfl (.inl rfl) (s_tup (s_ac (s_callH (Fs 4 (by decide)) tk hr (by rfl) T.g4 T.k4 T.b4 (by rfl) (by exact (al1 (al1 al0))) (s_ac s_int (s_ac (s_tup (s_ac (s_tup (s_ac s_int (s_ac s_int (s_ac s_int s_an)))) (s_ac (s_tup (s_ac s_int (s_ac s_int (s_ac (s_neg s_int) s_an)))) s_an))) s_an))) (s_ac (s_callHK (ks := ["edges", "many"]) (perm := [1, 0]) (Fs 4 (by decide)) tk hr (by rfl) T.g4 T.k4 (kb4_10 T) (by rfl) (by rfl) (k_ac (s_tup (s_ac (s_tup (s_ac s_int (s_ac s_int (s_ac (s_neg s_int) s_an)))) s_an)) (k_ac s_int k_an))) (s_ac (s_callH (Fs 4 (by decide)) tk hr (by rfl) T.g4 T.k4 T.b4 (by rfl) (by exact (al1 (al1 al0))) (s_ac s_int (s_ac (s_tup (s_ac (s_tup (s_ac s_int (s_ac s_int (s_ac (s_neg s_int) s_an)))) (s_ac (s_tup (s_ac s_int (s_ac s_int (s_ac s_int s_an)))) (s_ac (s_tup (s_ac s_int (s_ac s_int (s_ac s_int s_an)))) s_an)))) s_an))) s_an))))) (c_cons (c_if (w_or (t_notinD hu (s_ix hu1 (s_v (i := 0) rfl (.inl rfl)) s_int (fun _ _ => rfl)) (s_tup (s_ac (s_tup (s_ac s_int (s_ac s_int s_an))) (s_ac (s_tup (s_ac s_int (s_ac s_int s_an))) s_an))) (by rfl)) (w_or (t_ne hu (s_ix hu1 (s_v (i := 0) rfl (.inl rfl)) s_int (fun _ _ => rfl)) (s_tup (s_ac s_int s_an))) (w_or1 (t_notinD hu (s_ix hu1 (s_v (i := 0) rfl (.inl rfl)) s_int (fun _ _ => rfl)) (s_tup (s_ac (s_tup (s_ac s_int (s_ac s_int s_an))) (s_ac (s_tup (s_ac s_int (s_ac s_int s_an))) s_an))) (by rfl))))).pt (c_one (c_ret s_bl)) c_nil) (c_cons (c_if (w_or (t_isnt  (s_callH (Fs 4 (by decide)) tk hr (by rfl) T.g4 T.k4 T.b4 (by rfl) (by exact (al1 (al1 al0))) (s_ac s_int (s_ac (s_tup s_an) s_an))) s_non) (w_or (t_isnt  (s_callH (Fs 4 (by decide)) tk hr (by rfl) T.g4 T.k4 T.b4 (by rfl) (by exact (al1 (al1 al0))) (s_ac s_int (s_ac (s_tup (s_ac (s_tup (s_ac s_int (s_ac s_int (s_ac (s_neg s_int) s_an)))) (s_ac (s_tup (s_ac s_int (s_ac s_int (s_ac (s_neg s_int) s_an)))) s_an))) s_an))) s_non) (w_or1 (t_isnt  (s_callH (Fs 4 (by decide)) tk hr (by rfl) T.g4 T.k4 T.b4 (by rfl) (by exact (al1 (al1 al0))) (s_ac s_int (s_ac (s_tup (s_ac (s_tup (s_ac s_int (s_ac s_int (s_ac (s_neg s_int) s_an)))) (s_ac (s_tup (s_ac s_int (s_ac s_int (s_ac s_int s_an)))) (s_ac (s_tup (s_ac s_int (s_ac s_int (s_ac s_int s_an)))) s_an)))) s_an))) s_non)))).pt (c_one (c_ret s_bl)) c_nil) (c_cons (c_set (i := 1) nd rfl (.inl rfl) (s_tup (s_ac (s_tup (s_ac (s_callH (Fs 5 (by decide)) tk hr (by rfl) T.g5 T.k5 T.b5 (by rfl) (by exact (al1 (al1 (al1 al0)))) (s_ac s_int (s_ac (s_tup (s_ac (s_tup (s_ac s_int (s_ac s_int (s_ac s_int s_an)))) (s_ac (s_tup (s_ac s_int (s_ac s_int (s_ac (s_neg s_int) s_an)))) s_an))) (s_ac s_int s_an)))) (s_ac (s_tup (s_ac s_int (s_ac (s_neg s_int) (s_ac s_non s_an)))) s_an))) (s_ac (s_tup (s_ac (s_callHK (ks := ["start", "edges", "many"]) (perm := [2, 1, 0]) (Fs 5 (by decide)) tk hr (by rfl) T.g5 T.k5 (kb5_210 T) (by rfl) (by rfl) (k_ac s_int (k_ac (s_tup (s_ac (s_tup (s_ac s_int (s_ac s_int (s_ac s_int s_an)))) s_an)) (k_ac s_int k_an)))) (s_ac (s_tup (s_ac s_non (s_ac s_int s_an))) s_an))) (s_ac (s_tup (s_ac (s_callH (Fs 5 (by decide)) tk hr (by rfl) T.g5 T.k5 T.b5 (by rfl) (by exact (al1 (al1 (al1 al0)))) (s_ac s_int (s_ac (s_tup s_an) (s_ac s_int s_an)))) (s_ac (s_tup (s_ac s_int s_an)) s_an))) (s_ac (s_tup (s_ac (s_callH (Fs 5 (by decide)) tk hr (by rfl) T.g5 T.k5 T.b5 (by rfl) (by exact (al1 (al1 (al1 al0)))) (s_ac s_int (s_ac (s_tup (s_ac (s_tup (s_ac s_int (s_ac s_int (s_ac s_int s_an)))) (s_ac (s_tup (s_ac s_int (s_ac s_int (s_ac s_int s_an)))) (s_ac (s_tup (s_ac s_int (s_ac s_int (s_ac (s_neg s_int) s_an)))) s_an)))) (s_ac s_int s_an)))) (s_ac (s_tup (s_ac (s_neg s_int) (s_ac s_int s_an))) s_an))) (s_ac (s_tup (s_ac (s_callH (Fs 5 (by decide)) tk hr (by rfl) T.g5 T.k5 T.b5 (by rfl) (by exact (al1 (al1 (al1 al0)))) (s_ac s_int (s_ac (s_tup (s_ac (s_tup (s_ac s_int (s_ac s_int (s_ac s_int s_an)))) (s_ac (s_tup (s_ac s_int (s_ac s_int (s_ac (s_neg s_int) s_an)))) (s_ac (s_tup (s_ac s_int (s_ac s_int (s_ac (s_neg s_int) s_an)))) (s_ac (s_tup (s_ac s_int (s_ac s_int (s_ac s_int s_an)))) (s_ac (s_tup (s_ac s_int (s_ac s_int (s_ac s_int s_an)))) s_an)))))) (s_ac s_int s_an)))) (s_ac (s_tup (s_ac s_int (s_ac s_int (s_ac (s_neg s_int) (s_ac (s_neg s_int) s_an))))) s_an))) s_an))))))) (c_cons (c_for hp rfl (i_seq (s_v (i := 1) rfl (.inl rfl))) (g_tup rfl (gs_cons (g_name (vs := [2, 3]) nd rfl (.inl rfl) (by decide)) (gs_cons (g_name (vs := [2, 3]) nd rfl (.inl rfl) (by decide)) gs_nil))) (c_one (c_if (t_not (t_tr (s_callH (Fs 15 (by decide)) tk hr (by rfl) T.g15 T.k15 T.b15 (by rfl) (by exact (al1 (al1 al0))) (s_ac (s_v (i := 2) rfl (.inl rfl)) (s_ac (s_v (i := 3) rfl (.inl rfl)) s_an))))) (c_one (c_ret s_bl)) c_nil))) (c_cons (c_set (i := 4) nd rfl (.inl rfl) (s_tup (s_ac (s_tup (s_ac s_int (s_ac (s_tup (s_ac (s_tup (s_ac s_int (s_ac s_int (s_ac s_int s_an)))) (s_ac (s_tup (s_ac s_int (s_ac s_int (s_ac (s_neg s_int) s_an)))) s_an))) (s_ac (s_tup (s_ac s_int (s_ac s_int s_an))) (s_ac s_bl s_an))))) (s_ac (s_tup (s_ac s_int (s_ac (s_tup (s_ac (s_tup (s_ac s_int (s_ac s_int (s_ac s_int s_an)))) (s_ac (s_tup (s_ac s_int (s_ac s_int (s_ac (s_neg s_int) s_an)))) s_an))) (s_ac (s_tup (s_ac s_int (s_ac s_int s_an))) (s_ac s_bl s_an))))) (s_ac (s_tup (s_ac s_int (s_ac (s_tup (s_ac (s_tup (s_ac s_int (s_ac s_int (s_ac s_int s_an)))) (s_ac (s_tup (s_ac s_int (s_ac s_int (s_ac (s_neg s_int) s_an)))) s_an))) (s_ac (s_tup (s_ac s_int (s_ac s_int s_an))) (s_ac s_bl s_an))))) (s_ac (s_tup (s_ac s_int (s_ac (s_tup (s_ac (s_tup (s_ac s_int (s_ac s_int (s_ac (s_neg s_int) s_an)))) s_an)) (s_ac (s_tup (s_ac s_int s_an)) (s_ac s_bl s_an))))) (s_ac (s_tup (s_ac s_int (s_ac (s_tup (s_ac (s_tup (s_ac s_int (s_ac s_int (s_ac s_int s_an)))) s_an)) (s_ac (s_tup (s_ac s_int s_an)) (s_ac s_bl s_an))))) (s_ac (s_tup (s_ac s_int (s_ac (s_tup s_an) (s_ac (s_tup (s_ac s_int (s_ac s_bl s_an))) (s_ac s_bl s_an))))) (s_ac (s_tup (s_ac s_int (s_ac (s_tup s_an) (s_ac (s_tup (s_ac s_int (s_ac (s_neg s_int) s_an))) (s_ac s_bl s_an))))) (s_ac (s_tup (s_ac s_int (s_ac (s_tup s_an) (s_ac (s_lst (s_ac s_int (s_ac s_int s_an))) (s_ac s_bl s_an))))) s_an)))))))))) (c_cons (c_for hp rfl (i_seq (s_v (i := 4) rfl (.inl rfl))) (g_tup rfl (gs_cons (g_name (vs := [5, 6, 7, 3]) nd rfl (.inl rfl) (by decide)) (gs_cons (g_name (vs := [5, 6, 7, 3]) nd rfl (.inl rfl) (by decide)) (gs_cons (g_name (vs := [5, 6, 7, 3]) nd rfl (.inl rfl) (by decide)) (gs_cons (g_name (vs := [5, 6, 7, 3]) nd rfl (.inl rfl) (by decide)) gs_nil))))) (c_one (c_if (w_or (t_not (t_tr (s_callH (Fs 16 (by decide)) tk hr (by rfl) T.g16 T.k16 T.b16 (by rfl) (by exact (al1 (al1 al0))) (s_ac (s_callH (Fs 6 (by decide)) tk hr (by rfl) T.g6 T.k6 T.b6 (by rfl) (by exact (al1 (al1 (al1 al0)))) (s_ac (s_v (i := 5) rfl (.inl rfl)) (s_ac (s_v (i := 6) rfl (.inl rfl)) (s_ac (s_v (i := 7) rfl (.inl rfl)) s_an)))) (s_ac (s_v (i := 3) rfl (.inl rfl)) s_an))))) (w_or1 (t_not (t_tr (s_callH (Fs 16 (by decide)) tk hr (by rfl) T.g16 T.k16 T.b16 (by rfl) (by exact (al1 (al1 al0))) (s_ac (s_callHK (ks := ["thing", "many", "edges"]) (perm := [1, 2, 0]) (Fs 6 (by decide)) tk hr (by rfl) T.g6 T.k6 (kb6_120 T) (by rfl) (by rfl) (k_ac (s_v (i := 7) rfl (.inl rfl)) (k_ac (s_v (i := 5) rfl (.inl rfl)) (k_ac (s_v (i := 6) rfl (.inl rfl)) k_an)))) (s_ac (s_v (i := 3) rfl (.inl rfl)) s_an))))))).pt (c_one (c_ret s_bl)) c_nil))) (c_one (c_ret s_bl)))))))))
theorem w19 (T : Tb K mg f fd) (B : Bt mg) (Fs : ∀ j, j < 20 → FnOk Pg w K mg base (L2.CX Pg w) k (f j) (fd j) (psOf j) (spF P K call j (psOf j).length)) (cdv : Value) (A : Around) (outer : List Env) (s : Shared) (H : Hp) (E : XK) (hr : Room k (A.deeper (envOfC "law" (defScope (top 22)) s.heap.objs.size (f 19) cdv))) :
    PSs (cxOf (L2.CX Pg w) Pg w K mg base ["script", "scale", "wide", "counts", "lap", "many", "great", "edges", "one"] "law" (defScope (top 22)) (f 19) cdv A outer s H E) (defBody (top 22)) (tS P K (fun cls d _ H => E cls d H) (B19 call)) := by
  have hu := Room.h64 hr
  have hu1 := Room.h1 hr
  have nd := sc19.nd
  have hp : PassesOwn (model Pg w) _ (cxOf (L2.CX Pg w) Pg w K mg base ["script", "scale", "wide", "counts", "lap", "many", "great", "edges", "one"] "law" (defScope (top 22)) (f 19) cdv A outer s H E).env (cxOf (L2.CX Pg w) Pg w K mg base ["script", "scale", "wide", "counts", "lap", "many", "great", "edges", "one"] "law" (defScope (top 22)) (f 19) cdv A outer s H E).xe := passes_of rfl
  have tk : Takes (cxOf (L2.CX Pg w) Pg w K mg base ["script", "scale", "wide", "counts", "lap", "many", "great", "edges", "one"] "law" (defScope (top 22)) (f 19) cdv A outer s H E) (fun cls d _ H => E cls d H) := takes_of rfl rfl rfl rfl
  exact (c_cons (c_set (i := 1) nd rfl (.inl rfl) (s_call (Fs 7 (by decide)) tk hr (by rfl) T.g7 T.k7 T.b7 (by rfl) (by exact (al1 al0)) (s_ac (s_v (i := 0) rfl (.inl rfl)) s_an))) (c_cons (c_set (i := 2) nd rfl (.inl rfl) (s_eq hu (s_callH (Fs 8 (by decide)) tk hr (by rfl) T.g8 T.k8 T.b8 (by rfl) (by exact (al1 (al1 (al1 al0)))) (s_ac (s_v (i := 1) rfl (.inl rfl)) (s_ac s_int (s_ac s_int s_an)))) s_int)) (c_cons (c_if (t_not (t_tr (s_callH0 (Fs 18 (by decide)) tk hr (by rfl) T.g18 T.k18 T.b18 (by rfl)))) (c_one (c_ret s_bl)) c_nil) (c_cons (c_set (i := 3) nd rfl (.inl rfl) (s_lst (s_ac s_int (s_ac s_int s_an)))) (c_cons (c_for hp rfl (i_rng1 (by rfl) B.range_ (s_add s_int (s_intC (by rfl) B.int_ (s_v (i := 2) rfl (.inl rfl))))) (g_name (vs := [4]) nd rfl (.inl rfl) (by decide)) (c_cons (c_set (i := 5) nd rfl (.inl rfl) (s_ite (t_eq hu (s_v (i := 4) rfl (.inl rfl)) s_int) s_int (s_add s_int (s_callH (Fs 8 (by decide)) tk hr (by rfl) T.g8 T.k8 T.b8 (by rfl) (by exact (al1 (al1 (al1 al0)))) (s_ac (s_v (i := 1) rfl (.inl rfl)) (s_ac s_int (s_ac s_int s_an))))))) (c_cons (c_set (i := 6) nd rfl (.inl rfl) (s_eq hu (s_callH (Fs 8 (by decide)) tk hr (by rfl) T.g8 T.k8 T.b8 (by rfl) (by exact (al1 (al1 (al1 al0)))) (s_ac (s_v (i := 1) rfl (.inl rfl)) (s_ac s_int (s_ac s_int s_an)))) s_int)) (c_cons (c_set (i := 7) nd rfl (.inl rfl) (s_callH (Fs 10 (by decide)) tk hr (by rfl) T.g10 T.k10 T.b10 (by rfl) (by exact (al1 (al1 (al1 (al1 al0))))) (s_ac (s_v (i := 1) rfl (.inl rfl)) (s_ac (s_v (i := 5) rfl (.inl rfl)) (s_ac (s_ite (t_eq hu (s_v (i := 4) rfl (.inl rfl)) s_int) s_int (s_callH (Fs 8 (by decide)) tk hr (by rfl) T.g8 T.k8 T.b8 (by rfl) (by exact (al1 (al1 (al1 al0)))) (s_ac (s_v (i := 1) rfl (.inl rfl)) (s_ac s_int (s_ac s_int s_an))))) (s_ac (s_v (i := 6) rfl (.inl rfl)) s_an)))))) (c_cons (c_if (t_ne hu (s_v (i := 4) rfl (.inl rfl)) s_int) (c_one (c_for hp rfl (i_seq (s_callH (Fs 11 (by decide)) tk hr (by rfl) T.g11 T.k11 T.b11 (by rfl) (by exact (al1 (al1 (al1 (al1 al0))))) (s_ac (s_v (i := 1) rfl (.inl rfl)) (s_ac (s_v (i := 5) rfl (.inl rfl)) (s_ac (s_v (i := 6) rfl (.inl rfl)) (s_ac (s_ix hu1 (s_tup (s_ac s_int (s_ac (s_neg s_int) (s_ac s_int (s_ac s_int (s_ac (s_neg s_int) (s_ac (s_neg s_int) s_an))))))) (s_v (i := 4) rfl (.inl rfl)) (fun _ _ => rfl)) s_an)))))) (g_name (vs := [8]) nd rfl (.inl rfl) (by decide)) (c_one (c_expr (s_insert (s_v (i := 7) rfl (.inl rfl)) (s_ac (s_callH (Fs 8 (by decide)) tk hr (by rfl) T.g8 T.k8 T.b8 (by rfl) (by exact (al1 (al1 (al1 al0)))) (s_ac (s_v (i := 1) rfl (.inl rfl)) (s_ac s_int (s_ac (s_add (s_len (by rfl) B.len_ (s_v (i := 7) rfl (.inl rfl))) s_int) s_an)))) (s_ac (s_v (i := 8) rfl (.inl rfl)) s_an))))))) c_nil) (c_one (c_if (t_not (t_tr (s_callH (Fs 17 (by decide)) tk hr (by rfl) T.g17 T.k17 T.b17 (by rfl) (by exact (al1 (al1 (al1 (al1 al0))))) (s_ac (s_v (i := 1) rfl (.inl rfl)) (s_ac (s_v (i := 5) rfl (.inl rfl)) (s_ac (s_tupC (by rfl) B.tuple_ (s_v (i := 7) rfl (.inl rfl))) (s_ac (s_v (i := 3) rfl (.inl rfl)) s_an))))))) (c_one (c_ret s_bl)) c_nil))))))) (c_one (c_ret (s_and (s_gt  (s_ix hu1 (s_v (i := 3) rfl (.inl rfl)) s_int (fun _ _ => rfl)) s_int) (s_one (s_gt  (s_ix hu1 (s_v (i := 3) rfl (.inl rfl)) s_int (fun _ _ => rfl)) s_int))))))))))
end


def d1 : He.DefD := ⟨("is_integer", none), "is_integer", "is_integer", defArgs (top 1), defBody (top 1), defScope (top 1), [], []⟩
def d2 : He.DefD := ⟨("is_tuple", none), "is_tuple", "is_tuple", defArgs (top 2), defBody (top 2), defScope (top 2), [], []⟩
def d4 : He.DefD := ⟨("settle", none), "settle", "settle", defArgs (top 4), defBody (top 4), defScope (top 4), [], []⟩
def d5 : He.DefD := ⟨("round_through", none), "round_through", "round_through", defArgs (top 5), defBody (top 5), defScope (top 5), [], []⟩
def d6 : He.DefD := ⟨("falling_round", none), "falling_round", "falling_round", defArgs (top 6), defBody (top 6), defScope (top 6), [], []⟩
def d7 : He.DefD := ⟨("least_ways", none), "least_ways", "least_ways", defArgs (top 7), defBody (top 7), defScope (top 7), [], []⟩
def d8 : He.DefD := ⟨("is_potentials", none), "is_potentials", "is_potentials", defArgs (top 8), defBody (top 8), defScope (top 8), [], []⟩
def d10 : He.DefD := ⟨("_law_scale", none), "_law_scale", "_law_scale", defArgs (top 10), defBody (top 10), defScope (top 10), [], []⟩
def d11 : He.DefD := ⟨("_law_load", none), "_law_load", "_law_load", defArgs (top 11), defBody (top 11), defScope (top 11), [], []⟩
def d12 : He.DefD := ⟨("_law_weight", none), "_law_weight", "_law_weight", defArgs (top 12), defBody (top 12), defScope (top 12), [], []⟩
def d13 : He.DefD := ⟨("_law_edges", none), "_law_edges", "_law_edges", defArgs (top 13), defBody (top 13), defScope (top 13), [], []⟩
def d14 : He.DefD := ⟨("_law_round", none), "_law_round", "_law_round", defArgs (top 14), defBody (top 14), defScope (top 14), [], []⟩
def d15 : He.DefD := ⟨("_law_settled", none), "_law_settled", "_law_settled", defArgs (top 15), defBody (top 15), defScope (top 15), [], []⟩
def d16 : He.DefD := ⟨("_law_is_falling", none), "_law_is_falling", "_law_is_falling", defArgs (top 16), defBody (top 16), defScope (top 16), [], []⟩
def d17 : He.DefD := ⟨("_law_are_potentials", none), "_law_are_potentials", "_law_are_potentials", defArgs (top 17), defBody (top 17), defScope (top 17), [], []⟩
def d18 : He.DefD := ⟨("_law_same", none), "_law_same", "_law_same", defArgs (top 18), defBody (top 18), defScope (top 18), [], []⟩
def d19 : He.DefD := ⟨("_law_bool", none), "_law_bool", "_law_bool", defArgs (top 19), defBody (top 19), defScope (top 19), [], []⟩
def d20 : He.DefD := ⟨("_law_asked", none), "_law_asked", "_law_asked", defArgs (top 20), defBody (top 20), defScope (top 20), [], []⟩
def d21 : He.DefD := ⟨("_law_by_hand", none), "_law_by_hand", "_law_by_hand", defArgs (top 21), defBody (top 21), defScope (top 21), [], []⟩
def d22 : He.DefD := ⟨("law", none), "law", "law", defArgs (top 22), defBody (top 22), defScope (top 22), [], []⟩
def fn : List He.DefD := [d1, d2, d4, d5, d6, d7, d8, d10, d11, d12, d13, d14, d15, d16, d17, d18, d19, d20, d21, d22]
def fa : List He.Fa := [.glo "is_integer", .glo "is_tuple", .glo "settle", .glo "round_through", .glo "falling_round", .glo "least_ways", .glo "is_potentials", .glo "_law_scale", .glo "_law_load", .glo "_law_weight", .glo "_law_edges", .glo "_law_round", .glo "_law_settled", .glo "_law_is_falling", .glo "_law_are_potentials", .glo "_law_same", .glo "_law_bool", .glo "_law_asked", .glo "_law_by_hand", .glo "law", .free "abs", .free "all", .free "bool", .free "enumerate", .free "int", .free "isinstance", .free "len", .free "list", .free "range", .free "reversed", .free "set", .free "str", .free "sum", .free "tuple"]
abbrev R : PySem.W.OpenRow := PySem.W.OpenLaw.row PySem.Challenge.rw_pilesfit_k69_whole_weights
abbrev hk : PySem.W.Hook := He.hookD 5 fa fn
def ob (s : PySem.W.SharedT) : He.AlD := He.obsDG 5 fa fn (HandSHeadRun.getT s)
theorem ob_eq (s : PySem.W.SharedT) : ob s = hk.obs s.abs := He.obsDG_eq (HandSHeadRun.getT_eq s)
def loose0 : List PySem.Str := ["is_integer", "is_tuple", "settle", "round_through", "falling_round", "least_ways", "is_potentials", "_law_scale", "_law_load", "_law_weight", "_law_edges", "_law_round", "_law_settled", "_law_is_falling", "_law_are_potentials", "_law_same", "_law_bool", "_law_asked", "_law_by_hand"]
def loose : List PySem.Str := loose0
theorem run (w : World) : HandSHeadRun.RunEq R (PySem.W.view R.prog [22]) hk ob 4000 loose w := by
  intro os
  kernel_rfl
def Pr0 : Pr := ⟨fun _ => 0, fun _ => ""⟩
section
variable {Pg : Program} {w : World} {K : PySem.W.Frag} {mg : PySem.Str → Option Value} {base : Heap} {f : Nat → Addr} {fd : Nat → FuncData}
theorem zero_ok {call : Call} (h0 : ∀ i ws h, call i ws h = .bad) (k : Nat) (a : Addr) (d : FuncData) (ps : List PySem.Str) (i : Nat) : FnOk Pg w K mg base (L2.CX Pg w) k a d ps (spF Pr0 K call i ps.length) :=
  ⟨fun vs H Q E h => h.1, fun A outer s H args us vs Q E hr e0 hb r hsp => by
    obtain ⟨_, μ, h, ws, I, rs, hsp⟩ := hsp
    rw [h0] at hsp
    exact hsp.elim⟩
theorem table (T : Tb K mg f fd) (B : Bt mg) : ∀ k j, j < 20 → FnOk Pg w K mg base (L2.CX Pg w) k (f j) (fd j) (psOf j) (spF Pr0 K (callF fns k) j (psOf j).length)
  | 0, j, _ => zero_ok (fun _ _ _ => rfl) 0 _ _ _ _
  | k + 1, j, hj => by
    have Fs := table T B k
    match j, hj with
    | 0, _ => exact def_ok T.D0 sc0 (F := ⟨(psOf 0).length, _, B0⟩) rfl rfl rfl (by decide) fun cdv A outer s H E hr => w0 T B Fs cdv A outer s H E hr
    | 1, _ => exact def_ok T.D1 sc1 (F := ⟨(psOf 1).length, _, B1⟩) rfl rfl rfl (by decide) fun cdv A outer s H E hr => w1 T B Fs cdv A outer s H E hr
    | 2, _ => exact def_ok T.D2 sc2 (F := ⟨(psOf 2).length, _, B2⟩) rfl rfl rfl (by decide) fun cdv A outer s H E hr => w2 T B Fs cdv A outer s H E hr
    | 3, _ => exact def_ok T.D3 sc3 (F := ⟨(psOf 3).length, _, B3⟩) rfl rfl rfl (by decide) fun cdv A outer s H E hr => w3 T B Fs cdv A outer s H E hr
    | 4, _ => exact def_ok T.D4 sc4 (F := ⟨(psOf 4).length, _, B4⟩) rfl rfl rfl (by decide) fun cdv A outer s H E hr => w4 T B Fs cdv A outer s H E hr
    | 5, _ => exact def_ok T.D5 sc5 (F := ⟨(psOf 5).length, _, B5⟩) rfl rfl rfl (by decide) fun cdv A outer s H E hr => w5 T B Fs cdv A outer s H E hr
    | 6, _ => exact def_ok T.D6 sc6 (F := ⟨(psOf 6).length, _, B6⟩) rfl rfl rfl (by decide) fun cdv A outer s H E hr => w6 T B Fs cdv A outer s H E hr
    | 7, _ => exact def_ok T.D7 sc7 (F := ⟨(psOf 7).length, _, B7⟩) rfl rfl rfl (by decide) fun cdv A outer s H E hr => w7 T B Fs cdv A outer s H E hr
    | 8, _ => exact def_ok T.D8 sc8 (F := ⟨(psOf 8).length, _, B8⟩) rfl rfl rfl (by decide) fun cdv A outer s H E hr => w8 T B Fs cdv A outer s H E hr
    | 9, _ => exact def_ok T.D9 sc9 (F := ⟨(psOf 9).length, _, B9⟩) rfl rfl rfl (by decide) fun cdv A outer s H E hr => w9 T B Fs cdv A outer s H E hr
    | 10, _ => exact def_ok T.D10 sc10 (F := ⟨(psOf 10).length, _, B10⟩) rfl rfl rfl (by decide) fun cdv A outer s H E hr => w10 T B Fs cdv A outer s H E hr
    | 11, _ => exact def_ok T.D11 sc11 (F := ⟨(psOf 11).length, _, B11⟩) rfl rfl rfl (by decide) fun cdv A outer s H E hr => w11 T B Fs cdv A outer s H E hr
    | 12, _ => exact def_ok T.D12 sc12 (F := ⟨(psOf 12).length, _, B12⟩) rfl rfl rfl (by decide) fun cdv A outer s H E hr => w12 T B Fs cdv A outer s H E hr
    | 13, _ => exact def_ok T.D13 sc13 (F := ⟨(psOf 13).length, _, B13⟩) rfl rfl rfl (by decide) fun cdv A outer s H E hr => w13 T B Fs cdv A outer s H E hr
    | 14, _ => exact def_ok T.D14 sc14 (F := ⟨(psOf 14).length, _, B14⟩) rfl rfl rfl (by decide) fun cdv A outer s H E hr => w14 T B Fs cdv A outer s H E hr
    | 15, _ => exact def_ok T.D15 sc15 (F := ⟨(psOf 15).length, _, B15⟩) rfl rfl rfl (by decide) fun cdv A outer s H E hr => w15 T B Fs cdv A outer s H E hr
    | 16, _ => exact def_ok T.D16 sc16 (F := ⟨(psOf 16).length, _, B16⟩) rfl rfl rfl (by decide) fun cdv A outer s H E hr => w16 T B Fs cdv A outer s H E hr
    | 17, _ => exact def_ok T.D17 sc17 (F := ⟨(psOf 17).length, _, B17⟩) rfl rfl rfl (by decide) fun cdv A outer s H E hr => w17 T B Fs cdv A outer s H E hr
    | 18, _ => exact def_ok T.D18 sc18 (F := ⟨(psOf 18).length, _, B18⟩) rfl rfl rfl (by decide) fun cdv A outer s H E hr => w18 T B Fs cdv A outer s H E hr
    | 19, _ => exact def_ok T.D19 sc19 (F := ⟨(psOf 19).length, _, B19⟩) rfl rfl rfl (by decide) fun cdv A outer s H E hr => w19 T B Fs cdv A outer s H E hr
    | n + 20, h => exact absurd h (by omega)
end
def CXw (P : Program) : CXT := fun outer H s E u s' => ∃ w, L2.CX P w outer H s E u s'
def nmOf : Nat → PySem.Str
  | 0 => "is_integer"
  | 1 => "is_tuple"
  | 2 => "settle"
  | 3 => "round_through"
  | 4 => "falling_round"
  | 5 => "least_ways"
  | 6 => "is_potentials"
  | 7 => "_law_scale"
  | 8 => "_law_load"
  | 9 => "_law_weight"
  | 10 => "_law_edges"
  | 11 => "_law_round"
  | 12 => "_law_settled"
  | 13 => "_law_is_falling"
  | 14 => "_law_are_potentials"
  | 15 => "_law_same"
  | 16 => "_law_bool"
  | 17 => "_law_asked"
  | 18 => "_law_by_hand"
  | 19 => "law"
  | _ => ""
theorem facts {K : PySem.W.Frag} {h : Heap} {mg : PySem.Str → Option Value} (X : K.In h) (G : h.Ns mainGlobals mg) (c : He.SaysD fa fn K) : ∃ f fd, Tb K mg f fd ∧ Bt mg := by
  obtain ⟨fd0, D0⟩ := c.def_ 0 (d := d1) rfl
  obtain ⟨fd1, D1⟩ := c.def_ 1 (d := d2) rfl
  obtain ⟨fd2, D2⟩ := c.def_ 2 (d := d4) rfl
  obtain ⟨fd3, D3⟩ := c.def_ 3 (d := d5) rfl
  obtain ⟨fd4, D4⟩ := c.def_ 4 (d := d6) rfl
  obtain ⟨fd5, D5⟩ := c.def_ 5 (d := d7) rfl
  obtain ⟨fd6, D6⟩ := c.def_ 6 (d := d8) rfl
  obtain ⟨fd7, D7⟩ := c.def_ 7 (d := d10) rfl
  obtain ⟨fd8, D8⟩ := c.def_ 8 (d := d11) rfl
  obtain ⟨fd9, D9⟩ := c.def_ 9 (d := d12) rfl
  obtain ⟨fd10, D10⟩ := c.def_ 10 (d := d13) rfl
  obtain ⟨fd11, D11⟩ := c.def_ 11 (d := d14) rfl
  obtain ⟨fd12, D12⟩ := c.def_ 12 (d := d15) rfl
  obtain ⟨fd13, D13⟩ := c.def_ 13 (d := d16) rfl
  obtain ⟨fd14, D14⟩ := c.def_ 14 (d := d17) rfl
  obtain ⟨fd15, D15⟩ := c.def_ 15 (d := d18) rfl
  obtain ⟨fd16, D16⟩ := c.def_ 16 (d := d19) rfl
  obtain ⟨fd17, D17⟩ := c.def_ 17 (d := d20) rfl
  obtain ⟨fd18, D18⟩ := c.def_ 18 (d := d21) rfl
  obtain ⟨fd19, D19⟩ := c.def_ 19 (d := d22) rfl
  refine ⟨fun j => He.ga K (nmOf j), fun j => [fd0, fd1, fd2, fd3, fd4, fd5, fd6, fd7, fd8, fd9, fd10, fd11, fd12, fd13, fd14, fd15, fd16, fd17, fd18, fd19].getD j fd0, ⟨D0, He.glo_ok X G (c.fact 0 (f := .glo "is_integer") rfl), D1, He.glo_ok X G (c.fact 1 (f := .glo "is_tuple") rfl), D2, He.glo_ok X G (c.fact 2 (f := .glo "settle") rfl), D3, He.glo_ok X G (c.fact 3 (f := .glo "round_through") rfl), D4, He.glo_ok X G (c.fact 4 (f := .glo "falling_round") rfl), D5, He.glo_ok X G (c.fact 5 (f := .glo "least_ways") rfl), D6, He.glo_ok X G (c.fact 6 (f := .glo "is_potentials") rfl), D7, He.glo_ok X G (c.fact 7 (f := .glo "_law_scale") rfl), D8, He.glo_ok X G (c.fact 8 (f := .glo "_law_load") rfl), D9, He.glo_ok X G (c.fact 9 (f := .glo "_law_weight") rfl), D10, He.glo_ok X G (c.fact 10 (f := .glo "_law_edges") rfl), D11, He.glo_ok X G (c.fact 11 (f := .glo "_law_round") rfl), D12, He.glo_ok X G (c.fact 12 (f := .glo "_law_settled") rfl), D13, He.glo_ok X G (c.fact 13 (f := .glo "_law_is_falling") rfl), D14, He.glo_ok X G (c.fact 14 (f := .glo "_law_are_potentials") rfl), D15, He.glo_ok X G (c.fact 15 (f := .glo "_law_same") rfl), D16, He.glo_ok X G (c.fact 16 (f := .glo "_law_bool") rfl), D17, He.glo_ok X G (c.fact 17 (f := .glo "_law_asked") rfl), D18, He.glo_ok X G (c.fact 18 (f := .glo "_law_by_hand") rfl), D19, He.glo_ok X G (c.fact 19 (f := .glo "law") rfl)⟩, ⟨He.free_ok X G (c.fact 20 (f := .free "abs") rfl), He.free_ok X G (c.fact 21 (f := .free "all") rfl), He.free_ok X G (c.fact 22 (f := .free "bool") rfl), He.free_ok X G (c.fact 23 (f := .free "enumerate") rfl), He.free_ok X G (c.fact 24 (f := .free "int") rfl), He.free_ok X G (c.fact 25 (f := .free "isinstance") rfl), He.free_ok X G (c.fact 26 (f := .free "len") rfl), He.free_ok X G (c.fact 27 (f := .free "list") rfl), He.free_ok X G (c.fact 28 (f := .free "range") rfl), He.free_ok X G (c.fact 29 (f := .free "reversed") rfl), He.free_ok X G (c.fact 30 (f := .free "set") rfl), He.free_ok X G (c.fact 31 (f := .free "str") rfl), He.free_ok X G (c.fact 32 (f := .free "sum") rfl), He.free_ok X G (c.fact 33 (f := .free "tuple") rfl)⟩⟩
/-- what the law's def is to answer -/
def LawSays : Prop := ∀ ns : List Int, ns.length ≤ 63 → ∃ h, callF fns 40 19 [.scr ns] [] = .ok (bR true) h
theorem law_sp {K : PySem.W.Frag} {H : Hp} {a : Addr} {ns : List Int} (L : LawSays) (hl : ns.length ≤ 63) (hO : Only H) (hS : SqL K H a (ns.map V.int)) : spF Pr0 K (callF fns 40) 19 1 [.ref a] H (fun v _ => v = .bl true) fun _ _ _ => False := by
  have fz : FzL K H a (ns.map V.int) := by
    rcases hS with (h | h) | h
    · rcases hO a with z | ⟨o, xs, z⟩
      · rw [z] at h; cases h
      · rw [z] at h; cases h
    · exact .inl h
    · exact .inr h
  obtain ⟨h, e⟩ := L ns hl
  refine ⟨rfl, [], [], [.scr ns], ⟨.nil, .nil, .nil, fun i a z => by obtain ⟨⟨o, z⟩, _⟩ := z; simp at z, fun i j a z => by obtain ⟨⟨o, z⟩, _⟩ := z; simp at z⟩, .cons (.scr fz) .nil, ?_⟩
  rw [e]
  exact fun μ' H' v A r _ => rep_bl r
end HeadT
open PySem PySem.W PySem.Calls PyProof.Rows

theorem PySem.Challenge.cw_pilesfit_k69_whole_weights_holds : PySem.Challenge.rw_pilesfit_k69_whole_weights.Holds := by
  have L : HeadT.LawSays := HeadT.law_ok
  w_on; o_law
  refine HandSHeadRun.head_any (r := OpenLaw.row PySem.Challenge.rw_pilesfit_k69_whole_weights) (q := view (OpenLaw.row PySem.Challenge.rw_pilesfit_k69_whole_weights).prog [22]) (H := HeadT.hk) (ob := HeadT.ob) (M := 4000) (loose := HeadT.loose) (d := HandSHeadRun.topDef (OpenLaw.row PySem.Challenge.rw_pilesfit_k69_whole_weights).prog 22) (kwd := []) HeadT.ob_eq
    (by kernel_rfl) (fun s => by kernel_rfl) HeadT.run (by kernel_rfl) (by kernel_rfl) (by kernel_rfl) (by rfl) (by first | assumption | decide +kernel) (by decide +kernel) ⟨rfl, rfl, rfl, rfl, rfl, by decide +kernel⟩ ?hw ?hc
  case hw => w_witness2
  case hc =>
    refine L2.walk_ofE (l := PySem.Challenge.rw_pilesfit_k69_whole_weights) (n := 63) (k := 40) (x := "script") (CX := HeadT.CXw (PySem.Challenge.rw_pilesfit_k69_whole_weights).prog) rfl (by decide) (by kernel_rfl) ⟨rfl, by decide, by decide⟩ ?F (fun H s e s' z => by
      obtain ⟨w, _, _, _, _, _, _, _, _, _, _, _, _, z⟩ := z
      exact z)
    intro w mg fa h Y G hmg0
    obtain ⟨K, KX, c⟩ := Y
    have hmg : mg ("law" : PySem.Str) = some (.ref fa) := by
      have e : (HandSHeadRun.topDef (OpenLaw.row PySem.Challenge.rw_pilesfit_k69_whole_weights).prog 22).name = ("law" : PySem.Str) := by kernel_rfl
      rw [← e]
      exact hmg0
    obtain ⟨f, fd, T, B⟩ := HeadT.facts KX G c
    have e := hmg.symm.trans T.g19
    cases e
    refine ⟨K, fd 19, _, KX, fun s u => ?_, fun H a ns hl hO hS => HeadT.law_sp L hl hO hS, fun base hb hg => ?_⟩
    · exact T.D19.bindsA (ps := ["script"]) (fun _ _ _ _ _ _ us hl => match us, hl with | [_], _ => rfl) s [u] rfl
    · have F := HeadT.table (Pg := (PySem.Challenge.rw_pilesfit_k69_whole_weights).prog) (w := w) (base := base) T B 40 19 (by decide)
      exact ⟨F.len, fun A outer s H args us vs Q E hr e0 hb r hsp => codeAny_mono (F.run A outer s H args us vs Q E hr e0 hb r hsp) fun r s' q => by
        cases r with
        | ok fl => cases fl <;> exact q
        | error e => exact ⟨w, q⟩⟩

