import PyProof.Rows.All
import Wide.All
import OpenK.AllK
import Wide.FinOn
import KE.KStateDown
import Lean
import HandS.ForMost
import HandS.Exc
import HandS.Defaults
import HandS.Head0
import HandS.Head1
import HandS.Head2
import HandS.HeadEnd
import HandS.HeadHook1
import HandS.HeadHook2
import HandS.Walk
import HandS.Flow
import HandS.Wide
import HandS.TupAny
import HandS.TupMul
import HandS.IsInst
import HandS.Rev
import HandS.Zip
import HandS.Conv
import HandS.More
import HandS.Style
import KE.GoesMore
import HandS.ExcOwn
import HandS.WordsExc
import HandS.SetFor
import HandS.Set
import HandS.Steps
import HandS.Text
import PySem.Challenge.RW_pilesfit_k71_whole_deed_rows
set_option Elab.async false
set_option linter.all false
set_option maxRecDepth 100000
/-! MnCore: a small executable semantics for the part of Python that the program uses. Plain Lean. -/
set_option linter.all false
namespace Mn

/-- data without references -/
inductive D where
  | non | bl (b : Bool) | int (i : Int) | str (s : List Nat) | tup (xs : List D)
/-- values that stand in slots and objects -/
inductive W where
  | d (x : D) | ref (i : Nat) | tup (xs : List W) | scr (ns : List Int)
/-- objects; a dict's flag: it is being walked -/
inductive O where
  | lst (xs : List W) | dct (fz : Bool) (kvs : List (D × W)) | ins (c : Nat) (fs : List (Nat × W))
/-- results of expressions: a value, a new object that nobody holds, the object that a slot owns -/
inductive R where
  | w (x : W) | new (o : O) | slot (i : Nat)
inductive E0 where
  | un | w (x : W) | own (o : O)
structure S where
  ρ : List E0
  h : List O
inductive Res (α : Type) where
  | ok (a : α) (s : S) | exc (c : Nat) (xs : List (Nat × D)) (s : S) | bad
inductive Out where
  | nx (s : S) | rt (r : R) (s : S) | bk (s : S) | ct (s : S) | exc (c : Nat) (xs : List (Nat × D)) (s : S) | bad
inductive Res2 where
  | ok (r : R) (h : List O) | exc (c : Nat) (xs : List (Nat × D)) (h : List O) | bad

/-! ### sameness -/
mutual
def D.same : D → D → Bool
  | .non, .non => true
  | .bl a, .bl b => a == b
  | .int a, .int b => a == b
  | .str a, .str b => a == b
  | .tup a, .tup b => D.sames a b
  | _, _ => false
def D.sames : List D → List D → Bool
  | [], [] => true
  | x :: xs, y :: ys => D.same x y && D.sames xs ys
  | _, _ => false
end
mutual
theorem D.same_refl : ∀ x : D, D.same x x = true
  | .non => rfl
  | .bl _ => by simp [D.same]
  | .int _ => by simp [D.same]
  | .str _ => by simp [D.same]
  | .tup xs => by simp only [D.same]; exact D.sames_refl xs
theorem D.sames_refl : ∀ xs : List D, D.sames xs xs = true
  | [] => rfl
  | x :: xs => by simp only [D.sames, D.same_refl x, D.sames_refl xs, Bool.and_self]
end
mutual
theorem D.same_eq : ∀ {x y : D}, D.same x y = true → x = y
  | .non, y, h => by cases y <;> simp [D.same] at h ⊢
  | .bl _, y, h => by cases y <;> simp [D.same] at h ⊢ <;> exact h
  | .int _, y, h => by cases y <;> simp [D.same] at h ⊢ <;> exact h
  | .str _, y, h => by cases y <;> simp [D.same] at h ⊢ <;> exact h
  | .tup xs, y, h => by
    cases y <;> simp only [D.same, Bool.false_eq_true] at h
    rw [D.sames_eq h]
theorem D.sames_eq : ∀ {xs ys : List D}, D.sames xs ys = true → xs = ys
  | [], ys, h => by cases ys <;> simp [D.sames] at h ⊢
  | x :: xs, ys, h => by
    cases ys with
    | nil => simp [D.sames] at h
    | cons y ys =>
      simp only [D.sames, Bool.and_eq_true] at h
      rw [D.same_eq h.1, D.sames_eq h.2]
end
instance : DecidableEq D := fun x y => if h : D.same x y = true then .isTrue (D.same_eq h) else .isFalse fun e => h (e ▸ D.same_refl x)
mutual
def W.same : W → W → Bool
  | .d a, .d b => D.same a b
  | .ref a, .ref b => a == b
  | .scr a, .scr b => a == b
  | .tup a, .tup b => W.sames a b
  | _, _ => false
def W.sames : List W → List W → Bool
  | [], [] => true
  | x :: xs, y :: ys => W.same x y && W.sames xs ys
  | _, _ => false
end
mutual
theorem W.same_refl : ∀ x : W, W.same x x = true
  | .d x => D.same_refl x
  | .ref _ => by simp [W.same]
  | .scr _ => by simp [W.same]
  | .tup xs => by simp only [W.same]; exact W.sames_refl xs
theorem W.sames_refl : ∀ xs : List W, W.sames xs xs = true
  | [] => rfl
  | x :: xs => by simp only [W.sames, W.same_refl x, W.sames_refl xs, Bool.and_self]
end
mutual
theorem W.same_eq : ∀ {x y : W}, W.same x y = true → x = y
  | .d _, y, h => by cases y <;> simp only [W.same, Bool.false_eq_true] at h; rw [D.same_eq h]
  | .ref _, y, h => by cases y <;> simp [W.same] at h ⊢ <;> exact h
  | .scr _, y, h => by cases y <;> simp [W.same] at h ⊢ <;> exact h
  | .tup xs, y, h => by
    cases y <;> simp only [W.same, Bool.false_eq_true] at h
    rw [W.sames_eq h]
theorem W.sames_eq : ∀ {xs ys : List W}, W.sames xs ys = true → xs = ys
  | [], ys, h => by cases ys <;> simp [W.sames] at h ⊢
  | x :: xs, ys, h => by
    cases ys with
    | nil => simp [W.sames] at h
    | cons y ys =>
      simp only [W.sames, Bool.and_eq_true] at h
      rw [W.same_eq h.1, W.sames_eq h.2]
end
instance : DecidableEq W := fun x y => if h : W.same x y = true then .isTrue (W.same_eq h) else .isFalse fun e => h (e ▸ W.same_refl x)


def O.dec : (a b : O) → Decidable (a = b)
  | .lst x, .lst y => if h : x = y then .isTrue (by rw [h]) else .isFalse fun e => h (by injection e)
  | .dct f x, .dct g y => if h : f = g ∧ x = y then .isTrue (by rw [h.1, h.2]) else .isFalse fun e => h (by injection e with e1 e2; exact ⟨e1, e2⟩)
  | .ins c x, .ins d y => if h : c = d ∧ x = y then .isTrue (by rw [h.1, h.2]) else .isFalse fun e => h (by injection e with e1 e2; exact ⟨e1, e2⟩)
  | .lst _, .dct _ _ => .isFalse fun e => nomatch e
  | .lst _, .ins _ _ => .isFalse fun e => nomatch e
  | .dct _ _, .lst _ => .isFalse fun e => nomatch e
  | .dct _ _, .ins _ _ => .isFalse fun e => nomatch e
  | .ins _ _, .lst _ => .isFalse fun e => nomatch e
  | .ins _ _, .dct _ _ => .isFalse fun e => nomatch e
instance : DecidableEq O := O.dec

abbrev Ex := S → Res R
abbrev Tm := S → Res Bool
abbrev As := S → Res (List R)
abbrev St := S → Out
/-- the longest list, text -/
abbrev LN : Nat := 16777216

def Res.bind {α β : Type} (x : Res α) (k : α → S → Res β) : Res β := match x with
  | .ok a s => k a s
  | .exc c xs s => .exc c xs s
  | .bad => .bad
@[simp] theorem Res.bind_ok {α β : Type} (a : α) (s : S) (k : α → S → Res β) : (Res.ok a s).bind k = k a s := rfl

/-! ### tuples, objects -/
def alld : List W → Option (List D)
  | [] => some []
  | .d x :: r => match alld r with
    | some xs => some (x :: xs)
    | none => none
  | .ref _ :: _ => none
  | .tup _ :: _ => none
  | .scr _ :: _ => none
@[simp] theorem alld_map : ∀ xs : List D, alld (xs.map W.d) = some xs
  | [] => rfl
  | x :: xs => by simp only [List.map_cons, alld, alld_map xs]
theorem alld_some : ∀ {ws : List W} {xs : List D}, alld ws = some xs → ws = xs.map W.d
  | [], xs, h => by simp [alld] at h; subst h; rfl
  | .d x :: r, xs, h => by
    simp only [alld] at h
    cases e : alld r with
    | none => rw [e] at h; cases h
    | some ys => rw [e] at h; injection h with h; rw [← h, alld_some e]; rfl
  | .ref _ :: _, _, h => by simp [alld] at h
  | .tup _ :: _, _, h => by simp [alld] at h
  | .scr _ :: _, _, h => by simp [alld] at h
def mkTup (ws : List W) : W := match alld ws with
  | some xs => .d (.tup xs)
  | none => .tup ws
@[simp] theorem mkTup_map (xs : List D) : mkTup (xs.map W.d) = .d (.tup xs) := by simp [mkTup]
def W.items : W → Option (List W)
  | .d (.tup xs) => some (xs.map W.d)
  | .tup ws => some ws
  | _ => none

/-- where an object stands: at a heap's place, in a slot -/
inductive Src where
  | hp (j : Nat) | sl (i : Nat)
  deriving DecidableEq
def locR (s : S) : R → Option Src
  | .w (.ref j) => some (.hp j)
  | .slot i => match s.ρ[i]? with
    | some (.own _) => some (.sl i)
    | some (.w (.ref j)) => some (.hp j)
    | _ => none
  | _ => none
def getO (s : S) : Src → Option O
  | .hp j => s.h[j]?
  | .sl i => match s.ρ[i]? with
    | some (.own o) => some o
    | _ => none
def setO (s : S) (x : Src) (o : O) : S := match x with
  | .hp j => ⟨s.ρ, s.h.set j o⟩
  | .sl i => ⟨s.ρ.set i (.own o), s.h⟩
def objR (s : S) : R → Option O
  | .new o => some o
  | r => match locR s r with
    | some x => getO s x
    | none => none
/-- a list's (true), a tuple's (false) items -/
def seqR (s : S) : R → Option (Bool × List W)
  | .w (.d (.tup xs)) => some (false, xs.map W.d)
  | .w (.tup ws) => some (false, ws)
  | r => match objR s r with
    | some (.lst ws) => some (true, ws)
    | _ => none
/-- a value that may be kept: what nobody holds goes to the heap, what a slot owns too -/
def boxR (r : R) (s : S) : Option (W × S) := match r with
  | .w x => some (x, s)
  | .new o => some (.ref s.h.length, ⟨s.ρ, s.h ++ [o]⟩)
  | .slot i => match s.ρ[i]? with
    | some (.own o) => some (.ref s.h.length, ⟨s.ρ.set i (.w (.ref s.h.length)), s.h ++ [o]⟩)
    | some (.w x) => some (x, s)
    | _ => none
def boxes : List R → S → Option (List W × S)
  | [], s => some ([], s)
  | r :: rs, s => match boxR r s with
    | some (x, s1) => match boxes rs s1 with
      | some (xs, s2) => some (x :: xs, s2)
      | none => none
    | none => none
/-- a slot is given a value -/
def asg (i : Nat) (r : R) (s : S) : Option S := match r with
  | .new o => if i < s.ρ.length then some ⟨s.ρ.set i (.own o), s.h⟩ else none
  | r => match boxR r s with
    | some (x, s1) => if i < s1.ρ.length then some ⟨s1.ρ.set i (.w x), s1.h⟩ else none
    | none => none

/-! ### expressions -/
def kE (x : D) : Ex := fun s => .ok (.w (.d x)) s
def vE (i : Nat) : Ex := fun s => match s.ρ[i]? with
  | some (.w x) => .ok (.w x) s
  | some (.own _) => .ok (.slot i) s
  | _ => .bad
def asN : As := fun s => .ok [] s
def asC (a : Ex) (r : As) : As := fun s => (a s).bind fun x s1 => (r s1).bind fun xs s2 => .ok (x :: xs) s2
def tupE (as : As) : Ex := fun s => (as s).bind fun rs s1 => match boxes rs s1 with
  | some (ws, s2) => if ws.length ≤ LN then .ok (.w (mkTup ws)) s2 else .bad
  | none => .bad
def lstE (as : As) : Ex := fun s => (as s).bind fun rs s1 => match boxes rs s1 with
  | some (ws, s2) => if ws.length ≤ LN then .ok (.new (.lst ws)) s2 else .bad
  | none => .bad
def dctE : Ex := fun s => .ok (.new (.dct false [])) s
def op1 (f : S → R → Option R) (a : Ex) : Ex := fun s => (a s).bind fun x s1 => match f s1 x with
  | some r => .ok r s1
  | none => .bad
def op2 (f : S → R → R → Option R) (a b : Ex) : Ex := fun s => (a s).bind fun x s1 => (b s1).bind fun y s2 => match f s2 x y with
  | some r => .ok r s2
  | none => .bad
abbrev iR (i : Int) : R := .w (.d (.int i))
abbrev bR (b : Bool) : R := .w (.d (.bl b))

/-- sums -/
def addV (s : S) : R → R → Option R
  | .w (.d (.int i)), .w (.d (.int j)) => some (iR (i + j))
  | .w (.d (.str a)), .w (.d (.str b)) => if a.length + b.length ≤ LN then some (.w (.d (.str (a ++ b)))) else none
  | .w (.d (.tup a)), .w (.d (.tup b)) => if a.length + b.length ≤ LN then some (.w (.d (.tup (a ++ b)))) else none
  | x, y => match seqR s x, seqR s y with
    | some (false, a), some (false, b) => if a.length + b.length ≤ LN then some (.w (mkTup (a ++ b))) else none
    | some (true, a), some (true, b) => if a.length + b.length ≤ LN then some (.new (.lst (a ++ b))) else none
    | _, _ => none
def subV (_ : S) : R → R → Option R
  | .w (.d (.int i)), .w (.d (.int j)) => some (iR (i - j))
  | _, _ => none
def mulOk (i j : Int) : Bool := decide (i.natAbs < 2 ^ 64) || decide (j.natAbs < 2 ^ 64) || decide (i.natAbs.log2 + j.natAbs.log2 < 1000000)
def mulV (s : S) : R → R → Option R
  | .w (.d (.int i)), .w (.d (.int j)) => if mulOk i j then some (iR (i * j)) else none
  | .w (.d (.tup a)), .w (.d (.int k)) => if -1000 ≤ k ∧ k ≤ 1000 ∧ a.length ≤ 1000 then some (.w (.d (.tup (List.replicate k.toNat a).flatten))) else none
  | x, .w (.d (.int k)) => match objR s x with
    | some (.lst ws) => if -(2 ^ 63) ≤ k ∧ k < 2 ^ 63 ∧ ws.length * k.toNat ≤ LN then some (.new (.lst (List.replicate k.toNat ws).flatten)) else none
    | _ => none
  | _, _ => none
def divV (_ : S) : R → R → Option R
  | .w (.d (.int i)), .w (.d (.int j)) => if 0 < j ∧ j.natAbs.log2 < 9000 then some (iR (i / j)) else none
  | _, _ => none
def modV (_ : S) : R → R → Option R
  | .w (.d (.int i)), .w (.d (.int j)) => if 0 < j then some (iR (i % j)) else none
  | _, _ => none
def powV (_ : S) : R → R → Option R
  | .w (.d (.int i)), .w (.d (.int j)) => if 0 ≤ j ∧ j ≤ 1000000 ∧ i.natAbs < 2 ^ 64 then some (iR (i ^ j.toNat)) else none
  | _, _ => none
def shlV (_ : S) : R → R → Option R
  | .w (.d (.int i)), .w (.d (.int j)) => if 0 ≤ j ∧ j ≤ 1000000 ∧ i.natAbs < 2 ^ 64 then some (iR (i * 2 ^ j.toNat)) else none
  | _, _ => none
def negV (_ : S) : R → Option R
  | .w (.d (.int i)) => some (iR (-i))
  | _ => none

/-! ### comparisons -/
mutual
/-- == of data -/
def D.eqv : D → D → Bool
  | .non, .non => true
  | .bl a, .bl b => a == b
  | .bl a, .int j => (if a then 1 else 0) == j
  | .int i, .bl b => i == (if b then 1 else 0)
  | .int i, .int j => i == j
  | .str a, .str b => a == b
  | .tup a, .tup b => D.eqvs a b
  | _, _ => false
def D.eqvs : List D → List D → Bool
  | [], [] => true
  | x :: xs, y :: ys => D.eqv x y && D.eqvs xs ys
  | _, _ => false
end
mutual
def D.depth : D → Nat
  | .tup xs => D.depths xs + 1
  | _ => 0
def D.depths : List D → Nat
  | [] => 0
  | x :: xs => max x.depth (D.depths xs)
end
/-- what == looks at: a list's flag, the data -/
def datR (s : S) : R → Option (Bool × D)
  | .w (.d x) => some (false, x)
  | r => match objR s r with
    | some (.lst ws) => match alld ws with
      | some xs => some (true, .tup xs)
      | none => none
    | _ => none
def eqB (a b : Bool × D) : Bool := (a.1 == b.1) && D.eqv a.2 b.2
def eqV (s : S) (x y : R) : Option R := match datR s x, datR s y with
  | some a, some b => if min a.2.depth b.2.depth ≤ 64 then some (bR (eqB a b)) else none
  | _, _ => none
def neV (s : S) (x y : R) : Option R := match datR s x, datR s y with
  | some a, some b => if min a.2.depth b.2.depth ≤ 64 then some (bR (!eqB a b)) else none
  | _, _ => none
def cmpI (p : Int → Int → Bool) (_ : S) : R → R → Option R
  | .w (.d (.int i)), .w (.d (.int j)) => some (bR (p i j))
  | _, _ => none
abbrev ltV := cmpI fun i j => decide (i < j)
abbrev leV := cmpI fun i j => decide (i ≤ j)
abbrev gtV := cmpI fun i j => decide (j < i)
abbrev geV := cmpI fun i j => decide (j ≤ i)
def isNon : R → Bool
  | .w (.d .non) => true
  | _ => false
def isV (_ : S) (x y : R) : Option R := if isNon y then some (bR (isNon x)) else none
def isntV (_ : S) (x y : R) : Option R := if isNon y then some (bR (!isNon x)) else none
def D.flat : D → Bool
  | .tup _ => false
  | _ => true
def D.isKey : D → Bool
  | .int _ => true
  | .str _ => true
  | _ => false
def inB (x : D) (ys : List D) : Bool := ys.any fun y => D.eqv y x
/-- x in a list or tuple of flat things, a sign in a text -/
def inSeq (x : D) (ws : List W) : Option Bool := match alld ws with
  | some ys => if x.flat && ys.all D.flat then some (inB x ys) else none
  | none => none
def signIn : D → R → Option Bool
  | .str [c], .w (.d (.str t)) => some (decide (c ∈ t))
  | _, _ => none
def inRest (s : S) (x : D) (y : R) : Option Bool := match seqR s y with
  | some p => inSeq x p.2
  | none => signIn x y
def inD (s : S) (x : D) (y : R) : Option Bool := match objR s y with
  | some (.dct _ kvs) => if x.isKey then some (kvs.any fun q => decide (q.1 = x)) else none
  | _ => inRest s x y
def inV (neg : Bool) (s : S) (x y : R) : Option R := match x with
  | .w (.d x) => (inD s x y).map fun b => bR (if neg then !b else b)
  | _ => none
/-- truth -/
def tru (s : S) : R → Option Bool
  | .w (.d .non) => some false
  | .w (.d (.bl b)) => some b
  | .w (.d (.int i)) => some (i != 0)
  | .w (.d (.str a)) => if a.length ≤ LN then some (!a.isEmpty) else none
  | .w (.d (.tup a)) => some (!a.isEmpty)
  | .w (.tup a) => some (!a.isEmpty)
  | r => match objR s r with
    | some (.lst ws) => some (!ws.isEmpty)
    | some (.dct false kvs) => some (!kvs.isEmpty)
    | _ => none
def notV (s : S) (x : R) : Option R := (tru s x).map fun b => bR (!b)
def andE (a b : Ex) : Ex := fun s => (a s).bind fun x s1 => match tru s1 x with
  | some true => b s1
  | some false => .ok x s1
  | none => .bad
def orE (a b : Ex) : Ex := fun s => (a s).bind fun x s1 => match tru s1 x with
  | some true => .ok x s1
  | some false => b s1
  | none => .bad
def tst (a : Ex) : Tm := fun s => (a s).bind fun x s1 => match tru s1 x with
  | some b => .ok b s1
  | none => .bad
def andT (a b : Tm) : Tm := fun s => (a s).bind fun x s1 => if x then b s1 else .ok false s1
def orT (a b : Tm) : Tm := fun s => (a s).bind fun x s1 => if x then .ok true s1 else b s1
def notT (a : Tm) : Tm := fun s => (a s).bind fun x s1 => .ok (!x) s1
def iteE (t : Tm) (a b : Ex) : Ex := fun s => (t s).bind fun x s1 => if x then a s1 else b s1
/-- a < b < c -/
def chE (f g : S → R → R → Option R) (a b c : Ex) : Ex := fun s => (a s).bind fun x s1 => (b s1).bind fun y s2 => match f s2 x y with
  | some (.w (.d (.bl true))) => (c s2).bind fun z s3 => match g s3 y z with
    | some r => .ok r s3
    | none => .bad
  | some (.w (.d (.bl false))) => .ok (bR false) s2
  | _ => .bad

/-! ### places, slices -/
def ixN (n : Nat) (i : Int) : Option Nat := if 0 ≤ i then (if i < n then some i.toNat else none) else if -(n : Int) ≤ i then some (i + n).toNat else none
def atI {α : Type} (xs : List α) (i : Int) : Option α := match ixN xs.length i with
  | some j => xs[j]?
  | none => none
def look (kvs : List (D × W)) (k : D) : Option W := match kvs with
  | [] => none
  | (k', v) :: r => if k' = k then some v else look r k
def ixSeq (s : S) (x : R) (i : Int) : Option R := match x with
  | .w (.d (.tup xs)) => (atI xs i).map fun x => .w (.d x)
  | .w (.d (.str a)) => if a.length ≤ LN then (atI a i).map fun c => .w (.d (.str [c])) else none
  | .w (.scr ns) => (atI ns i).map iR
  | x => match seqR s x with
    | some p => (atI p.2 i).map R.w
    | none => none
def ixV (s : S) (x y : R) : Option R := match y with
  | .w (.d k) => match objR s x with
    | some (.dct _ kvs) => if k.isKey then (look kvs k).map R.w else none
    | _ => match k with
      | .int i => ixSeq s x i
      | _ => none
  | _ => none
def sIx (n d : Nat) : Option Int → Nat
  | none => d
  | some v => if v < 0 then (v + (n : Int)).toNat else min v.toNat n
def cut {α : Type} (xs : List α) (lo hi : Option Int) : List α := (xs.drop (sIx xs.length 0 lo)).take (sIx xs.length xs.length hi - sIx xs.length 0 lo)
def slV (s : S) (x : R) (lo hi : Option Int) : Option R := match x with
  | .w (.d (.tup xs)) => some (.w (.d (.tup (cut xs lo hi))))
  | .w (.d (.str a)) => if a.length ≤ LN then some (.w (.d (.str (cut a lo hi)))) else none
  | .w (.scr ns) => some (.new (.lst ((cut ns lo hi).map fun i => .d (.int i))))
  | x => match objR s x with
    | some (.lst ws) => some (.new (.lst (cut ws lo hi)))
    | _ => none
def noO : S → Res (Option Int) := fun s => .ok none s
def someO (a : Ex) : S → Res (Option Int) := fun s => (a s).bind fun x s1 => match x with
  | .w (.d (.int i)) => .ok (some i) s1
  | _ => .bad
def slE (a : Ex) (lo hi : S → Res (Option Int)) : Ex := fun s => (a s).bind fun x s1 => (lo s1).bind fun l s2 => (hi s2).bind fun u s3 => match slV s3 x l u with
  | some r => .ok r s3
  | none => .bad

/-- the types that isinstance asks for -/
inductive Ty where
  | non | bool | int | str | tup | lst | dct
  deriving DecidableEq
def tyR (s : S) : R → Option Ty
  | .w (.d .non) => some .non
  | .w (.d (.bl _)) => some .bool
  | .w (.d (.int _)) => some .int
  | .w (.d (.str _)) => some .str
  | .w (.d (.tup _)) => some .tup
  | .w (.tup _) => some .tup
  | r => match objR s r with
    | some (.lst _) => some .lst
    | some (.dct _ _) => some .dct
    | _ => none
def isiB (t T : Ty) : Bool := decide (t = T) || (decide (t = .bool) && decide (T = .int))
def isiV (T : Ty) (s : S) (r : R) : Option R := (tyR s r).map fun t => bR (isiB t T)
/-! ### built-in calls -/
def lenV (s : S) : R → Option R
  | .w (.d (.str a)) => if a.length ≤ LN then some (iR a.length) else none
  | .w (.scr ns) => some (iR ns.length)
  | r => match seqR s r with
    | some (_, ws) => some (iR ws.length)
    | none => match objR s r with
      | some (.dct false kvs) => some (iR kvs.length)
      | _ => none
def intV (_ : S) : R → Option R
  | .w (.d (.int i)) => some (iR i)
  | .w (.d (.bl b)) => some (iR (if b then 1 else 0))
  | _ => none
def absV (_ : S) : R → Option R
  | .w (.d (.int i)) => some (iR (if i < 0 then -i else i))
  | _ => none
def tupleV (s : S) (r : R) : Option R := (seqR s r).map fun p => .w (mkTup p.2)
def listV (s : S) (r : R) : Option R := (seqR s r).map fun p => .new (.lst p.2)
def bls : List D → Option (List Bool)
  | [] => some []
  | .bl b :: r => (bls r).map (b :: ·)
  | _ :: _ => none
def intsD : List D → Option (List Int)
  | [] => some []
  | .int b :: r => (intsD r).map (b :: ·)
  | _ :: _ => none
@[simp] theorem bls_map : ∀ xs : List Bool, bls (xs.map D.bl) = some xs
  | [] => rfl
  | x :: xs => by simp [bls, bls_map xs]
@[simp] theorem intsD_map : ∀ xs : List Int, intsD (xs.map D.int) = some xs
  | [] => rfl
  | x :: xs => by simp [intsD, intsD_map xs]
def datL (s : S) (r : R) : Option (List D) := match seqR s r with
  | some (_, ws) => alld ws
  | none => none
def lstL (s : S) (r : R) : Option (List D) := match objR s r with
  | some (.lst ws) => alld ws
  | _ => none
def allV (s : S) (r : R) : Option R := ((lstL s r).bind bls).map fun bs => bR (bs.all id)
def anyV (s : S) (r : R) : Option R := ((lstL s r).bind bls).map fun bs => bR (bs.any id)
def sumV (s : S) (r : R) : Option R := ((lstL s r).bind intsD).map fun ns => iR ns.sum

/-- tuple(reversed(x)) of a list -/
def revV (s : S) (r : R) : Option R := match objR s r with
  | some (.lst ws) => some (.w (mkTup ws.reverse))
  | _ => none
/-- list(range(n)) -/
def lrngV (_ : S) : R → Option R
  | .w (.d (.int n)) => if -(2 ^ 62) ≤ n ∧ n ≤ 16777216 then some (.new (.lst ((List.range n.toNat).map fun i : Nat => W.d (.int (i : Int))))) else none
  | _ => none
/-- how many distinct -/
def dist : List Int → Nat
  | [] => 0
  | x :: xs => if x ∈ xs then dist xs else dist xs + 1
/-- len(set(x)) of a tuple of whole numbers -/
def lsetV (_ : S) : R → Option R
  | .w (.d (.tup xs)) => match intsD xs with
    | some ns => if ns.length + 1 < 4096 then some (iR (dist ns)) else none
    | none => none
  | _ => none
/-- str(i) -/
def strV (_ : S) : R → Option R
  | .w (.d (.int i)) => if i.natAbs.log2 < 1920 then some (.w (.d (.str ((toString i).toList.map Char.toNat)))) else none
  | _ => none
/-- x in a tuple of anything -/
def inDV (neg : Bool) (_ : S) : R → R → Option R
  | .w (.d x), .w (.d (.tup ys)) => if min (D.depths ys) x.depth ≤ 60 then some (bR (if neg then !inB x ys else inB x ys)) else none
  | _, _ => none

/-! ### statements -/
def seqS (a b : St) : St := fun s => match a s with
  | .nx s1 => b s1
  | o => o
def nxS : St := fun s => .nx s
def ofRes {α : Type} (x : Res α) (k : α → S → Out) : Out := match x with
  | .ok a s => k a s
  | .exc c xs s => .exc c xs s
  | .bad => .bad
@[simp] theorem ofRes_ok {α : Type} (a : α) (s : S) (k : α → S → Out) : ofRes (.ok a s) k = k a s := rfl
def ofOpt (x : Option S) : Out := match x with
  | some s => .nx s
  | none => .bad
@[simp] theorem ofOpt_some (s : S) : ofOpt (some s) = .nx s := rfl
def setS (i : Nat) (e : Ex) : St := fun s => ofRes (e s) fun r s1 => ofOpt (asg i r s1)
def exprS (e : Ex) : St := fun s => ofRes (e s) fun _ s1 => .nx s1
def retS (e : Ex) : St := fun s => ofRes (e s) fun r s1 => .rt r s1
def ifS (t : Tm) (a b : St) : St := fun s => ofRes (t s) fun x s1 => if x then a s1 else b s1
def brkS : St := fun s => .bk s
def ctS : St := fun s => .ct s
/-- targets -/
abbrev Tg := R → S → Option S
def tgV (i : Nat) : Tg := asg i
def tgs : List Tg → List W → S → Option S
  | [], [], s => some s
  | t :: ts, x :: xs, s => match t (.w x) s with
    | some s1 => tgs ts xs s1
    | none => none
  | _, _, _ => none
def tgT (ts : List Tg) : Tg := fun r s => match r with
  | .w x => match x.items with
    | some ws => tgs ts ws s
    | none => none
  | _ => none
/-- two names at once, from two expressions -/
def parS (i j : Nat) (a : As) : St := fun s => ofRes (a s) fun rs s1 => match boxes rs s1 with
  | some ([x, y], s2) => (match asg i (.w x) s2 with
    | some s3 => ofOpt (asg j (.w y) s3)
    | none => .bad)
  | _ => .bad
def unpS (t : Tg) (e : Ex) : St := fun s => ofRes (e s) fun r s1 => ofOpt (t r s1)
/-- o[i] = v, by values -/
def dput (kvs : List (D × W)) (k : D) (v : W) : List (D × W) :=
  if (kvs.any fun q => decide (q.1 = k)) = true then kvs.map (fun q => if q.1 = k then (q.1, v) else q) else kvs ++ [(k, v)]
def putV (o i : R) (x : W) (s : S) : Option S := match locR s o, i with
  | some p, .w (.d k) => match getO s p with
    | some (.lst ws) => match k with
      | .int n => (ixN ws.length n).map fun j => setO s p (.lst (ws.set j x))
      | _ => none
    | some (.dct false kvs) => if k.isKey && decide (kvs.length < LN) then some (setO s p (.dct false (dput kvs k x))) else none
    | _ => none
  | _, _ => none
def putS (o i e : Ex) : St := fun s => ofRes (e s) fun r s1 => ofRes (o s1) fun ro s2 => ofRes (i s2) fun ri s3 => match boxR r s3 with
  | some (x, s4) => ofOpt (putV ro ri x s4)
  | none => .bad
/-- methods of lists: the receiver, the arguments -/
def isLst (s : S) (r : R) : Bool := match objR s r with
  | some (.lst _) => true
  | _ => false
def meth (f : S → R → List R → Option (R × S)) (o : Ex) (as : As) : Ex := fun s => (o s).bind fun r s1 => if isLst s1 r then ((as s1).bind fun rs s2 => match f s2 r rs with
  | some (x, s3) => .ok x s3
  | none => .bad) else .bad
def appendV (s : S) (o : R) : List R → Option (R × S)
  | [r] => match boxR r s with
    | some (x, s1) => match locR s1 o with
      | some p => match getO s1 p with
        | some (.lst ws) => if ws.length < LN then some (.w (.d .non), setO s1 p (.lst (ws ++ [x]))) else none
        | _ => none
      | none => none
    | none => none
  | _ => none
def popV (s : S) (o : R) : List R → Option (R × S)
  | [] => match locR s o with
    | some p => match getO s p with
      | some (.lst ws) => match ws.getLast? with
        | some x => some (.w x, setO s p (.lst ws.dropLast))
        | none => none
      | _ => none
    | none => none
  | [.w (.d (.int i))] => match locR s o with
    | some p => match getO s p with
      | some (.lst ws) => if -(2 ^ 63) ≤ i ∧ i < 2 ^ 63 then (match ixN ws.length i with
        | some j => match ws[j]? with
          | some x => some (.w x, setO s p (.lst (ws.eraseIdx j)))
          | none => none
        | none => none) else none
      | _ => none
    | none => none
  | _ => none
def insertV (s : S) (o : R) : List R → Option (R × S)
  | [.w (.d (.int i)), r] => match boxR r s with
    | some (x, s1) => match locR s1 o with
      | some p => match getO s1 p with
        | some (.lst ws) => if ws.length < LN ∧ 0 ≤ i ∧ i < 2 ^ 63 then some (.w (.d .non), setO s1 p (.lst (ws.take i.toNat ++ [x] ++ ws.drop i.toNat))) else none
        | _ => none
      | none => none
    | none => none
  | _ => none

/-! ### loops -/
/-- behind a turn -/
def turnO (k : S → Out) : Out → Out
  | .nx s => k s
  | .ct s => k s
  | .bk s => .nx s
  | .rt r s => .rt r s
  | .exc c xs s => .exc c xs s
  | .bad => .bad
def whileN (t : Tm) (b : St) : Nat → St
  | 0, _ => .bad
  | n + 1, s => ofRes (t s) fun x s1 => if x then turnO (whileN t b n) (b s1) else .nx s1
/-- the most turns of a while -/
def WN : Nat := 2 ^ 40
def whileS (t : Tm) (b : St) : St := whileN t b WN
/-- what a for walks: the items, the object that must stay as it is -/
structure It where
  items : List W
  keep : Option (Nat × O)
def kept (s : S) (k : Option (Nat × O)) : Bool := match k with
  | none => true
  | some (j, o) => decide (s.h[j]? = some o)
def forL (k : Option (Nat × O)) (t : Tg) (b : St) : List W → St
  | [], s => if kept s k then .nx s else .bad
  | x :: xs, s => if kept s k then (match t (.w x) s with
    | some s1 => turnO (forL k t b xs) (b s1)
    | none => .bad) else .bad
def forS (it : S → Res It) (t : Tg) (b : St) : St := fun s => ofRes (it s) fun i s1 => forL i.keep t b i.items s1
/-- the list, tuple, text that a result is: a list goes to the heap -/
def itR (r : R) (s1 : S) : Res It := match seqR s1 r with
  | some (false, ws) => .ok ⟨ws, none⟩ s1
  | some (true, ws) => (match boxR r s1 with
    | some (.ref j, s2) => .ok ⟨ws, some (j, .lst ws)⟩ s2
    | _ => .bad)
  | none => match r with
    | .w (.d (.str a)) => if a.length ≤ LN then .ok ⟨a.map fun c => .d (.str [c]), none⟩ s1 else .bad
    | .w (.scr ns) => .ok ⟨ns.map fun i => .d (.int i), none⟩ s1
    | _ => .bad
def itE (a : Ex) : S → Res It := fun s => (a s).bind itR
def small (i : Int) : Bool := decide (-(2 ^ 62) ≤ i) && decide (i < 2 ^ 62)
def uptoN (lo : Int) (n : Nat) : List W := (List.range n).map fun i : Nat => W.d (.int (lo + (i : Int)))
def itR1 (a : Ex) : S → Res It := fun s => (a s).bind fun r s1 => match r with
  | .w (.d (.int n)) => if small n then .ok ⟨uptoN 0 n.toNat, none⟩ s1 else .bad
  | _ => .bad
def itR2 (a b : Ex) : S → Res It := fun s => (a s).bind fun r s1 => (b s1).bind fun q s2 => match r, q with
  | .w (.d (.int m)), .w (.d (.int n)) => if small m && small n then .ok ⟨uptoN m (n - m).toNat, none⟩ s2 else .bad
  | _, _ => .bad
def enumL (k : Nat) : List W → List W
  | [] => []
  | x :: xs => mkTup [.d (.int k), x] :: enumL (k + 1) xs
/-- enumerate of a list, a tuple -/
def itEnum (a : Ex) : S → Res It := fun s => (a s).bind fun r s1 => match seqR s1 r with
  | some _ => (itR r s1).bind fun i s2 => .ok ⟨enumL 0 i.items, i.keep⟩ s2
  | none => .bad
/-- the object that a slot holds goes to the heap -/
def pullS (i : Nat) (s : S) : Option (Nat × S) := match s.ρ[i]? with
  | some (.own o) => some (s.h.length, ⟨s.ρ.set i (.w (.ref s.h.length)), s.h ++ [o]⟩)
  | some (.w (.ref j)) => some (j, s)
  | _ => none
def thaw (j : Nat) (kvs : List (D × W)) (s : S) : Option S := if s.h[j]? = some (.dct true kvs) then some ⟨s.ρ, s.h.set j (.dct false kvs)⟩ else none
def thawO (j : Nat) (kvs : List (D × W)) : Out → Out
  | .nx s => ofOpt (thaw j kvs s)
  | .rt r s => match r, thaw j kvs s with
    | .w x, some s1 => .rt (.w x) s1
    | _, _ => .bad
  | .bk s => match thaw j kvs s with
    | some s1 => .bk s1
    | none => .bad
  | .ct s => match thaw j kvs s with
    | some s1 => .ct s1
    | none => .bad
  | _ => .bad
/-- for .. in the dict that a slot holds -/
def forD (i : Nat) (t : Tg) (b : St) : St := fun s => match pullS i s with
  | some (j, s1) => (match s1.h[j]? with
    | some (.dct false kvs) => thawO j kvs (forL (some (j, .dct true kvs)) t b (kvs.map fun q => W.d q.1) ⟨s1.ρ, s1.h.set j (.dct true kvs)⟩)
    | _ => .bad)
  | none => .bad
/-- a comprehension: its own slots are forgotten within it, as they were behind it -/
def wipe (vs : List Nat) (ρ : List E0) : List E0 := match vs with
  | [] => ρ
  | v :: vs => (wipe vs ρ).set v .un
def E0.free : E0 → Bool
  | .own _ => false
  | _ => true
def frees (vs : List Nat) (s : S) : Bool := vs.all fun v => (s.ρ.getD v .un).free
def restore (vs : List Nat) (ρ₀ ρ : List E0) : List E0 := match vs with
  | [] => ρ
  | v :: vs => (restore vs ρ₀ ρ).set v (ρ₀.getD v .un)
def lcL (k : Option (Nat × O)) (t : Tg) (c : Tm) (e : Ex) (vs : List Nat) : List W → List W → S → Option (List W × S)
  | [], acc, s => if kept s k && frees vs s then some (acc, s) else none
  | x :: xs, acc, s => if kept s k && frees vs s then (match t (.w x) ⟨wipe vs s.ρ, s.h⟩ with
    | some s1 => (match c s1 with
      | .ok true s2 => (match e s2 with
        | .ok r s3 => (match boxR r s3 with
          | some (y, s4) => if acc.length < LN then lcL k t c e vs xs (acc ++ [y]) s4 else none
          | none => none)
        | _ => none)
      | .ok false s2 => lcL k t c e vs xs acc s2
      | _ => none)
    | none => none) else none
def lcE (it : S → Res It) (t : Tg) (c : Tm) (e : Ex) (vs : List Nat) : Ex := fun s => (it s).bind fun i s1 => match lcL i.keep t c e vs i.items [] s1 with
  | some (ws, s2) => .ok (.new (.lst ws)) ⟨restore vs s1.ρ s2.ρ, s2.h⟩
  | none => .bad
def yesT : Tm := fun s => .ok true s

/-! ### calls -/
abbrev Call := Nat → List W → List O → Res2
/-- a def: its parameters, its slots, its body -/
structure Fn where
  ps : Nat
  n : Nat
  body : Call → St
def outF : Out → Res2
  | .nx s => .ok (.w (.d .non)) s.h
  | .rt r s => match r with
    | .slot i => (match s.ρ[i]? with
      | some (.own o) => .ok (.new o) s.h
      | some (.w x) => .ok (.w x) s.h
      | _ => .bad)
    | r => .ok r s.h
  | .exc c xs s => .exc c xs s.h
  | _ => .bad
def callF (fns : List Fn) : Nat → Call
  | 0, _, _, _ => .bad
  | k + 1, f, ws, h => match fns[f]? with
    | some F => if ws.length = F.ps then outF (F.body (callF fns k) ⟨ws.map .w ++ List.replicate (F.n - F.ps) .un, h⟩) else .bad
    | none => .bad
def backC (ρ : List E0) : Res2 → Res R
  | .ok r h => .ok r ⟨ρ, h⟩
  | .exc c xs h => .exc c xs ⟨ρ, h⟩
  | .bad => .bad
def callE (call : Call) (f : Nat) (as : As) : Ex := fun s => (as s).bind fun rs s1 => match boxes rs s1 with
  | some (ws, s2) => backC s2.ρ (call f ws s2.h)
  | none => .bad
mutual
/-- nothing that can change -/
def W.pure : W → Bool
  | .d _ => true
  | .scr _ => true
  | .ref _ => false
  | .tup ws => W.pures ws
def W.pures : List W → Bool
  | [] => true
  | w :: ws => W.pure w && W.pures ws
end
def pureR : R → Bool
  | .w x => x.pure
  | .new (.lst ws) => W.pures ws
  | .new (.dct false kvs) => W.pures (kvs.map (·.2))
  | _ => false
/-- behind a call that saw nothing of the heap -/
def backP (s : S) : Res2 → Res R
  | .ok r _ => if pureR r then .ok r s else .bad
  | .exc c xs _ => .exc c xs s
  | .bad => .bad
def callV (call : Call) (f : Nat) (ws : List W) (s2 : S) : Res R := if W.pures ws then backP s2 (call f ws []) else backC s2.ρ (call f ws s2.h)
/-- a call; where the arguments cannot change it sees nothing of the heap -/
def callH (call : Call) (f : Nat) (as : As) : Ex := fun s => (as s).bind fun rs s1 => match boxes rs s1 with
  | some (ws, s2) => callV call f ws s2
  | none => .bad
def callHK (call : Call) (f : Nat) (perm : List Nat) (as : As) : Ex := fun s => (as s).bind fun rs s1 => match boxes rs s1 with
  | some (ws, s2) => if ws.length = perm.length then callV call f (perm.map fun i => ws.getD i (.d .non)) s2 else .bad
  | none => .bad
/-- .. by keywords: perm tells for each parameter where its value is written -/
def callK (call : Call) (f : Nat) (perm : List Nat) (as : As) : Ex := fun s => (as s).bind fun rs s1 => match boxes rs s1 with
  | some (ws, s2) => if ws.length = perm.length then backC s2.ρ (call f (perm.map fun i => ws.getD i (.d .non)) s2.h) else .bad
  | none => .bad
end Mn

set_option linter.all false
/-! MnCore2: more of the semantics: objects, what is not reached, more built-ins. Plain Lean. -/
namespace Mn
/-! ### what is not reached -/
def badE : Ex := fun _ => .bad
def badT : Tm := fun _ => .bad
def badS : St := fun _ => .bad
def badI : S → Res It := fun _ => .bad
/-! ### objects of own classes -/
def lookF (fs : List (Nat × W)) (n : Nat) : Option W := match fs with
  | [] => none
  | (m, v) :: r => if m = n then some v else lookF r n
def putFs (fs : List (Nat × W)) (n : Nat) (w : W) : List (Nat × W) := match fs with
  | [] => [(n, w)]
  | (m, v) :: r => if m = n then (m, w) :: r else (m, v) :: putFs r n w
/-- o.f, of the classes cs -/
def fldV (cs : List Nat) (n : Nat) (s : S) (r : R) : Option R := match objR s r with
  | some (.ins c fs) => if c ∈ cs then (lookF fs n).map R.w else none
  | _ => none
def setF (cs : List Nat) (n : Nat) (r : R) (w : W) (s : S) : Option S := match locR s r with
  | some p => match getO s p with
    | some (.ins c fs) => if c ∈ cs ∧ fs.length < 1000 then some (setO s p (.ins c (putFs fs n w))) else none
    | _ => none
  | none => none
/-- o.f = e -/
def fldS (cs : List Nat) (n : Nat) (o e : Ex) : St := fun s => ofRes (e s) fun r s1 => ofRes (o s1) fun ro s2 => match boxR r s2 with
  | some (x, s3) => ofOpt (setF cs n ro x s3)
  | none => .bad
/-- op= on whole numbers, texts -/
def augAdd (_ : S) : R → R → Option R
  | .w (.d (.int i)), .w (.d (.int j)) => some (iR (i + j))
  | .w (.d (.str a)), .w (.d (.str b)) => if a.length + b.length ≤ LN then some (.w (.d (.str (a ++ b)))) else none
  | _, _ => none
def augSub (_ : S) : R → R → Option R
  | .w (.d (.int i)), .w (.d (.int j)) => some (iR (i - j))
  | _, _ => none
/-- o.f op= e -/
def augF (f : S → R → R → Option R) (cs : List Nat) (n : Nat) (o e : Ex) : St := fun s => ofRes (o s) fun ro s1 => match objR s1 ro with
  | some (.ins c fs) => (match (if c ∈ cs then lookF fs n else none) with
    | some v => ofRes (e s1) fun y s2 => (match f s2 (.w v) y with
      | some (.w x) => ofOpt (setF [c] n ro x s2)
      | _ => .bad)
    | none => .bad)
  | _ => .bad
/-- x op= e -/
def augS (f : S → R → R → Option R) (i : Nat) (e : Ex) : St := fun s => match s.ρ[i]? with
  | some (.w v) => ofRes (e s) fun y s1 => (match f s1 (.w v) y with
    | some (.w x) => ofOpt (asg i (.w x) s1)
    | _ => .bad)
  | _ => .bad
/-- o.m(..) of an instance of class c whose method is def j -/
def methE (call : Call) (c j mn : Nat) (o : Ex) (as : As) : Ex := fun s => (o s).bind fun r s1 => match objR s1 r with
  | some (.ins c' fs) => if c' = c ∧ lookF fs mn = none then ((as s1).bind fun rs s2 => match boxes (r :: rs) s2 with
    | some (ws, s3) => backC s3.ρ (call j ws s3.h)
    | none => .bad) else .bad
  | _ => .bad
/-- C(..) -/
def newR (s2 : S) : Res2 → Res R
  | .ok (.w (.d .non)) h' => .ok (.w (.ref s2.h.length)) ⟨s2.ρ, h'⟩
  | .exc c xs h' => .exc c xs ⟨s2.ρ, h'⟩
  | _ => .bad
def newE (call : Call) (c j : Nat) (as : As) : Ex := fun s => (as s).bind fun rs s1 => match boxes rs s1 with
  | some (ws, s2) => newR s2 (call j (.ref s2.h.length :: ws) (s2.h ++ [.ins c []]))
  | none => .bad
/-! ### more built-ins -/
def min2V (_ : S) : R → R → Option R
  | .w (.d (.int i)), .w (.d (.int j)) => some (iR (if j < i then j else i))
  | _, _ => none
def max2V (_ : S) : R → R → Option R
  | .w (.d (.int i)), .w (.d (.int j)) => some (iR (if j > i then j else i))
  | _, _ => none
/-- t[::-1] of a tuple -/
def revT (s : S) : R → Option R
  | .w (.d (.tup xs)) => some (.w (.d (.tup xs.reverse)))
  | _ => none
/-- xs.extend(ys) -/
def extendV (s : S) (o : R) : List R → Option (R × S)
  | [r] => match objR s r with
    | some (.lst vs) => match locR s o with
      | some p => match getO s p with
        | some (.lst ws) => if ws.length + vs.length ≤ LN then some (.w (.d .non), setO s p (.lst (ws ++ vs))) else none
        | _ => none
      | none => none
    | _ => none
  | _ => none
/-- the first place of x -/
def place (x : D) : List D → Option Nat
  | [] => none
  | y :: ys => if D.eqv y x then some 0 else (place x ys).map (· + 1)
/-- xs.index(y) of flat things -/
def indexV (s : S) (o : R) : List R → Option (R × S)
  | [.w (.d x)] => match objR s o with
    | some (.lst ws) => match alld ws with
      | some ys => if x.flat && ys.all D.flat then (place x ys).map fun i => (iR (i : Nat), s) else none
      | none => none
    | _ => none
  | _ => none
/-- what one sign parts -/
def splt (c : Nat) : List Nat → List (List Nat)
  | [] => [[]]
  | x :: xs => if x = c then [] :: splt c xs else match splt c xs with
    | [] => [[x]]
    | p :: ps => (x :: p) :: ps
/-- s.split(c) -/
def splitV (_ : S) : R → R → Option R
  | .w (.d (.str a)), .w (.d (.str [c])) => if a.length + 2 ≤ LN ∧ c < 256 then some (.new (.lst ((splt c a).map fun p => .d (.str p)))) else none
  | _, _ => none
/-- methods of texts: the receiver, one argument -/
def isStr : R → Bool
  | .w (.d (.str _)) => true
  | _ => false
def smeth1 (f : S → R → R → Option R) (o e : Ex) : Ex := fun s => (o s).bind fun x s1 => if isStr x then ((e s1).bind fun y s2 => match f s2 x y with
  | some r => .ok r s2
  | none => .bad) else .bad
end Mn

set_option linter.all false
/-! MnEv: the semantics step by step. Plain Lean. -/
namespace Mn
section
variable {s s1 s2 s3 : S} {a b c : Ex} {x y z r : R} {t u : Tm} {f : S → R → R → Option R} {f1 : S → R → Option R} {p q : St} {o : Out} {rs : List R}
theorem op2_ev (h1 : a s = .ok x s1) (h2 : b s1 = .ok y s2) (h3 : f s2 x y = some r) : op2 f a b s = .ok r s2 := by
  unfold op2; rw [h1]; simp only [Res.bind_ok]; rw [h2]; simp only [Res.bind_ok]; rw [h3]
theorem op1_ev (h1 : a s = .ok x s1) (h3 : f1 s1 x = some r) : op1 f1 a s = .ok r s1 := by
  unfold op1; rw [h1]; simp only [Res.bind_ok]; rw [h3]
theorem tst_ev {k : Bool} (h1 : a s = .ok x s1) (h2 : tru s1 x = some k) : tst a s = .ok k s1 := by
  unfold tst; rw [h1]; simp only [Res.bind_ok]; rw [h2]
theorem tst_b {k : Bool} (h1 : a s = .ok (bR k) s1) : tst a s = .ok k s1 := tst_ev h1 rfl
theorem andT_t {r : Res Bool} (h1 : t s = .ok true s1) (h2 : u s1 = r) : andT t u s = r := by
  unfold andT; rw [h1]; exact h2
theorem andT_f (h1 : t s = .ok false s1) : andT t u s = .ok false s1 := by
  unfold andT; rw [h1]; rfl
theorem orT_t (h1 : t s = .ok true s1) : orT t u s = .ok true s1 := by
  unfold orT; rw [h1]; rfl
theorem orT_f {r : Res Bool} (h1 : t s = .ok false s1) (h2 : u s1 = r) : orT t u s = r := by
  unfold orT; rw [h1]; exact h2
theorem notT_ev {k : Bool} (h1 : t s = .ok k s1) : notT t s = .ok (!k) s1 := by
  unfold notT; rw [h1]; rfl
theorem andE_t {r : Res R} (h1 : a s = .ok x s1) (h2 : tru s1 x = some true) (h3 : b s1 = r) : andE a b s = r := by
  unfold andE; rw [h1]; simp only [Res.bind_ok]; rw [h2]; exact h3
theorem andE_f (h1 : a s = .ok x s1) (h2 : tru s1 x = some false) : andE a b s = .ok x s1 := by
  unfold andE; rw [h1]; simp only [Res.bind_ok]; rw [h2]
theorem orE_t (h1 : a s = .ok x s1) (h2 : tru s1 x = some true) : orE a b s = .ok x s1 := by
  unfold orE; rw [h1]; simp only [Res.bind_ok]; rw [h2]
theorem orE_f {r : Res R} (h1 : a s = .ok x s1) (h2 : tru s1 x = some false) (h3 : b s1 = r) : orE a b s = r := by
  unfold orE; rw [h1]; simp only [Res.bind_ok]; rw [h2]; exact h3
theorem ite_t {r : Res R} (h1 : t s = .ok true s1) (h2 : a s1 = r) : iteE t a b s = r := by
  unfold iteE; rw [h1]; exact h2
theorem ite_f {r : Res R} (h1 : t s = .ok false s1) (h2 : b s1 = r) : iteE t a b s = r := by
  unfold iteE; rw [h1]; exact h2
theorem asC_ev {as : As} (h1 : a s = .ok x s1) (h2 : as s1 = .ok rs s2) : asC a as s = .ok (x :: rs) s2 := by
  unfold asC; rw [h1]; simp only [Res.bind_ok]; rw [h2]; rfl
theorem asN_ev : asN s = .ok [] s := rfl
theorem tup_ev {as : As} {ws : List W} (h1 : as s = .ok rs s1) (h2 : boxes rs s1 = some (ws, s2)) (h3 : ws.length ≤ LN) : tupE as s = .ok (.w (mkTup ws)) s2 := by
  unfold tupE; rw [h1]; simp only [Res.bind_ok]; rw [h2]; simp only [h3, if_true]
theorem lst_ev {as : As} {ws : List W} (h1 : as s = .ok rs s1) (h2 : boxes rs s1 = some (ws, s2)) (h3 : ws.length ≤ LN) : lstE as s = .ok (.new (.lst ws)) s2 := by
  unfold lstE; rw [h1]; simp only [Res.bind_ok]; rw [h2]; simp only [h3, if_true]
theorem meth_ev {f : S → R → List R → Option (R × S)} {as : As} (h1 : a s = .ok x s1) (h2 : isLst s1 x = true) (h3 : as s1 = .ok rs s2) (h4 : f s2 x rs = some (r, s3)) : meth f a as s = .ok r s3 := by
  unfold meth; rw [h1]; simp only [Res.bind_ok]; rw [if_pos h2, h3]; simp only [Res.bind_ok]; rw [h4]
theorem callH_ev {call : Call} {i : Nat} {as : As} {ws : List W} {r : Res R} (h1 : as s = .ok rs s1) (h2 : boxes rs s1 = some (ws, s2)) (h3 : callV call i ws s2 = r) : callH call i as s = r := by
  unfold callH; rw [h1]; simp only [Res.bind_ok]; rw [h2]; exact h3
theorem callE_ev {call : Call} {i : Nat} {as : As} {ws : List W} {r : Res2} (h1 : as s = .ok rs s1) (h2 : boxes rs s1 = some (ws, s2)) (h3 : call i ws s2.h = r) : callE call i as s = backC s2.ρ r := by
  unfold callE; rw [h1]; simp only [Res.bind_ok]; rw [h2]; simp only [h3]
theorem callV_p {call : Call} {i : Nat} {ws : List W} {h : List O} (h1 : W.pures ws = true) (h2 : call i ws [] = .ok r h) (h3 : pureR r = true) : callV call i ws s = .ok r s := by
  unfold callV; rw [if_pos h1, h2]; show (if pureR r then Res.ok r s else .bad) = _; rw [if_pos h3]
theorem callV_n {call : Call} {i : Nat} {ws : List W} {r : Res2} (h1 : W.pures ws = false) (h2 : call i ws s.h = r) : callV call i ws s = backC s.ρ r := by
  unfold callV; rw [h1, h2]; rfl
/-! statements -/
theorem seq_nx (h1 : p s = .nx s1) (h2 : q s1 = o) : seqS p q s = o := by unfold seqS; rw [h1]; exact h2
theorem seq_rt (h1 : p s = .rt r s1) : seqS p q s = .rt r s1 := by unfold seqS; rw [h1]
theorem if_t (h1 : t s = .ok true s1) (h2 : p s1 = o) : ifS t p q s = o := by unfold ifS; rw [h1]; exact h2
theorem if_f (h1 : t s = .ok false s1) (h2 : q s1 = o) : ifS t p q s = o := by unfold ifS; rw [h1]; exact h2
theorem ret_ev (h1 : a s = .ok x s1) : retS a s = .rt x s1 := by unfold retS; rw [h1]; rfl
theorem set_ev {i : Nat} (h1 : a s = .ok x s1) (h2 : asg i x s1 = some s2) : setS i a s = .nx s2 := by unfold setS; rw [h1]; simp only [ofRes_ok]; rw [h2]; rfl
theorem expr_ev (h1 : a s = .ok x s1) : exprS a s = .nx s1 := by unfold exprS; rw [h1]; rfl
theorem unp_ev {g : Tg} (h1 : a s = .ok x s1) (h2 : g x s1 = some s2) : unpS g a s = .nx s2 := by unfold unpS; rw [h1]; simp only [ofRes_ok]; rw [h2]; rfl
theorem put_ev {w : W} {s4 s5 : S} (h1 : c s = .ok x s1) (h2 : a s1 = .ok y s2) (h3 : b s2 = .ok z s3) (h4 : boxR x s3 = some (w, s4)) (h5 : putV y z w s4 = some s5) : putS a b c s = .nx s5 := by
  unfold putS; rw [h1]; simp only [ofRes_ok]; rw [h2]; simp only [ofRes_ok]; rw [h3]; simp only [ofRes_ok]; rw [h4]; simp only; rw [h5]; rfl
theorem par_ev {i j : Nat} {as : As} {w1 w2 : W} {s4 : S} (h1 : as s = .ok rs s1) (h2 : boxes rs s1 = some ([w1, w2], s2)) (h3 : asg i (.w w1) s2 = some s3) (h4 : asg j (.w w2) s3 = some s4) : parS i j as s = .nx s4 := by
  unfold parS; rw [h1]; simp only [ofRes_ok]; rw [h2]; simp only; rw [h3]; simp only; rw [h4]; rfl
theorem for_ev {it : S → Res It} {i : It} {g : Tg} (h1 : it s = .ok i s1) (h2 : forL i.keep g p i.items s1 = o) : forS it g p s = o := by unfold forS; rw [h1]; exact h2
theorem forL_nil {k : Option (Nat × O)} {g : Tg} (h : kept s k = true) : forL k g p [] s = .nx s := by unfold forL; rw [if_pos h]
theorem forL_cons {k : Option (Nat × O)} {g : Tg} {w : W} {ws : List W} (h : kept s k = true) (h1 : g (.w w) s = some s1) (h2 : p s1 = .nx s2) (h3 : forL k g p ws s2 = o) : forL k g p (w :: ws) s = o := by
  unfold forL; rw [if_pos h, h1]; simp only; rw [h2]; exact h3
theorem forL_rt {k : Option (Nat × O)} {g : Tg} {w : W} {ws : List W} (h : kept s k = true) (h1 : g (.w w) s = some s1) (h2 : p s1 = .rt r s2) : forL k g p (w :: ws) s = .rt r s2 := by
  unfold forL; rw [if_pos h, h1]; simp only; rw [h2]; rfl
theorem while_t {n : Nat} (h1 : t s = .ok true s1) (h2 : p s1 = .nx s2) (h3 : whileN t p n s2 = o) : whileN t p (n + 1) s = o := by
  unfold whileN; rw [h1]; simp only [ofRes_ok, if_true]; rw [h2]; exact h3
theorem while_f {n : Nat} (h1 : t s = .ok false s1) : whileN t p (n + 1) s = .nx s1 := by
  unfold whileN; rw [h1]; rfl
theorem itR1_ev {m : Int} (h1 : a s = .ok (iR m) s1) (h2 : small m = true) : itR1 a s = .ok ⟨uptoN 0 m.toNat, none⟩ s1 := by
  unfold itR1; rw [h1]; simp only [Res.bind_ok]; rw [if_pos h2]
theorem small_ok {m : Int} (h1 : -1000000 ≤ m) (h2 : m ≤ 1000000) : small m = true := by
  unfold small
  rw [Bool.and_eq_true]
  exact ⟨decide_eq_true (by omega), decide_eq_true (by omega)⟩
theorem seq_ref {j : Nat} {ws : List W} (e : s.h[j]? = some (.lst ws)) : seqR s (.w (.ref j)) = some (true, ws) := by
  have e1 : objR s (.w (.ref j)) = some (.lst ws) := e
  show (match objR s (.w (.ref j)) with
    | some (.lst ws) => some (true, ws)
    | _ => none) = _
  rw [e1]
end
end Mn

set_option linter.all false
/-! MnTac: lemmas for the step tactic. Plain Lean. -/
namespace Mn
section
variable {s s1 s2 s3 s4 s5 : S} {a b c : Ex} {x y z r : R} {t u : Tm} {f : S → R → R → Option R} {f1 : S → R → Option R} {p q : St} {o : Out} {rs : List R} {ws : List W}
theorem kE_ev {x : D} : kE x s = .ok (.w (.d x)) s := rfl
theorem vE_w {i : Nat} {x : W} (h : s.ρ[i]? = some (.w x)) : vE i s = .ok (.w x) s := by unfold vE; rw [h]
theorem vE_o {i : Nat} {x : O} (h : s.ρ[i]? = some (.own x)) : vE i s = .ok (.slot i) s := by unfold vE; rw [h]
theorem tupD_ev {as : As} {xs : List D} (h1 : as s = .ok rs s1) (h2 : boxes rs s1 = some (ws, s2)) (h4 : alld ws = some xs) (h3 : ws.length ≤ LN) : tupE as s = .ok (.w (.d (.tup xs))) s2 := by
  rw [tup_ev h1 h2 h3]; unfold mkTup; rw [h4]
theorem callV_q {call : Call} {i : Nat} {r : R} {h : List O} (h1 : W.pures ws = false) (h2 : call i ws s.h = .ok r h) : callV call i ws s = .ok r ⟨s.ρ, h⟩ := by
  unfold callV; rw [h1, h2]; rfl
theorem callE_q {call : Call} {i : Nat} {as : As} {r : R} {h : List O} (h1 : as s = .ok rs s1) (h2 : boxes rs s1 = some (ws, s2)) (h3 : call i ws s2.h = .ok r h) : callE call i as s = .ok r ⟨s2.ρ, h⟩ := by
  rw [callE_ev h1 h2 h3]; rfl
theorem callHK_ev {call : Call} {i : Nat} {as : As} {perm : List Nat} {r : Res R} (h1 : as s = .ok rs s1) (h2 : boxes rs s1 = some (ws, s2)) (h4 : ws.length = perm.length) (h3 : callV call i (perm.map fun i => ws.getD i (.d .non)) s2 = r) : callHK call i perm as s = r := by
  unfold callHK; rw [h1]; simp only [Res.bind_ok]; rw [h2]; simp only; rw [if_pos h4]; exact h3
theorem lc_ev {it : S → Res It} {i : It} {g : Tg} {vs : List Nat} (h1 : it s = .ok i s1) (h2 : lcL i.keep g t a vs i.items [] s1 = some (ws, s2)) : lcE it g t a vs s = .ok (.new (.lst ws)) ⟨restore vs s1.ρ s2.ρ, s2.h⟩ := by
  unfold lcE; rw [h1]; simp only [Res.bind_ok]; rw [h2]
theorem chE_t {f g : S → R → R → Option R} (h1 : a s = .ok x s1) (h2 : b s1 = .ok y s2) (h3 : f s2 x y = some (bR true)) (h4 : c s2 = .ok z s3) (h5 : g s3 y z = some r) : chE f g a b c s = .ok r s3 := by
  unfold chE; rw [h1]; simp only [Res.bind_ok]; rw [h2]; simp only [Res.bind_ok]; rw [h3]; simp only; rw [h4]; simp only [Res.bind_ok]; rw [h5]
theorem chE_f {f g : S → R → R → Option R} (h1 : a s = .ok x s1) (h2 : b s1 = .ok y s2) (h3 : f s2 x y = some (bR false)) : chE f g a b c s = .ok (bR false) s2 := by
  unfold chE; rw [h1]; simp only [Res.bind_ok]; rw [h2]; simp only [Res.bind_ok]; rw [h3]
theorem tst_eq {k k' : Bool} (h1 : a s = .ok x s1) (h2 : tru s1 x = some k') (h3 : k' = k) : tst a s = .ok k s1 := tst_ev h1 (h3 ▸ h2)
theorem notT_eq {k k' : Bool} (h1 : t s = .ok k' s1) (h3 : (!k') = k) : notT t s = .ok k s1 := by rw [notT_ev h1, h3]
theorem if_c {k : Bool} (h1 : t s = .ok k s1) (h2 : (k = true ∧ p s1 = o) ∨ (k = false ∧ q s1 = o)) : ifS t p q s = o := by
  rcases h2 with ⟨rfl, h⟩ | ⟨rfl, h⟩
  · exact if_t h1 h
  · exact if_f h1 h
theorem ite_c {k : Bool} {r : Res R} (h1 : t s = .ok k s1) (h2 : (k = true ∧ a s1 = r) ∨ (k = false ∧ b s1 = r)) : iteE t a b s = r := by
  rcases h2 with ⟨rfl, h⟩ | ⟨rfl, h⟩
  · exact ite_t h1 h
  · exact ite_f h1 h
theorem and_c {k : Bool} {r : Res Bool} (h1 : t s = .ok k s1) (h2 : (k = true ∧ u s1 = r) ∨ (k = false ∧ r = .ok false s1)) : andT t u s = r := by
  rcases h2 with ⟨rfl, h⟩ | ⟨rfl, h⟩
  · exact andT_t h1 h
  · rw [h]; exact andT_f h1
theorem or_c {k : Bool} {r : Res Bool} (h1 : t s = .ok k s1) (h2 : (k = true ∧ r = .ok true s1) ∨ (k = false ∧ u s1 = r)) : orT t u s = r := by
  rcases h2 with ⟨rfl, h⟩ | ⟨rfl, h⟩
  · rw [h]; exact orT_t h1
  · exact orT_f h1 h
theorem andE_c {k : Bool} {r : Res R} (h1 : a s = .ok x s1) (h2 : tru s1 x = some k) (h3 : (k = true ∧ b s1 = r) ∨ (k = false ∧ r = .ok x s1)) : andE a b s = r := by
  rcases h3 with ⟨rfl, h⟩ | ⟨rfl, h⟩
  · exact andE_t h1 h2 h
  · rw [h]; exact andE_f h1 h2
theorem orE_c {k : Bool} {r : Res R} (h1 : a s = .ok x s1) (h2 : tru s1 x = some k) (h3 : (k = true ∧ r = .ok x s1) ∨ (k = false ∧ b s1 = r)) : orE a b s = r := by
  rcases h3 with ⟨rfl, h⟩ | ⟨rfl, h⟩
  · rw [h]; exact orE_t h1 h2
  · exact orE_f h1 h2 h
theorem nx_ev : nxS s = .nx s := rfl
theorem sl_ev {lo hi : S → Res (Option Int)} {l u : Option Int} (h1 : a s = .ok x s1) (h2 : lo s1 = .ok l s2) (h3 : hi s2 = .ok u s3) (h4 : slV s3 x l u = some r) : slE a lo hi s = .ok r s3 := by
  unfold slE; rw [h1]; simp only [Res.bind_ok]; rw [h2]; simp only [Res.bind_ok]; rw [h3]; simp only [Res.bind_ok]; rw [h4]
theorem no_ev : noO s = .ok none s := rfl
theorem some_ev {i : Int} (h1 : a s = .ok (iR i) s1) : someO a s = .ok (some i) s1 := by unfold someO; rw [h1]; rfl
theorem itE_ev {i : Res It} (h1 : a s = .ok x s1) (h2 : itR x s1 = i) : itE a s = i := by unfold itE; rw [h1]; exact h2
theorem while_ev {n : Nat} {o : Out} (h : whileN t p n s = o) (hn : n = WN) : whileS t p s = o := by subst hn; exact h
end
theorem ixN_z {n : Nat} {v : Int} (h0 : 0 ≤ v) (h : v < n) : ixN n v = some v.toNat := by unfold ixN; rw [if_pos h0, if_pos h]
theorem atI_z {α : Type} {xs : List α} {v : Int} {x : α} (h0 : 0 ≤ v) (h : xs[v.toNat]? = some x) : atI xs v = some x := by
  have := (List.getElem?_eq_some_iff.mp h).1
  unfold atI; rw [ixN_z h0 (by omega)]; exact h
theorem ixz_tup {s : S} {xs : List D} {v : Int} {x : D} (h0 : 0 ≤ v) (h : xs[v.toNat]? = some x) : ixV s (.w (.d (.tup xs))) (iR v) = some (.w (.d x)) := by
  show ((atI xs v).map fun x => R.w (.d x)) = _
  rw [atI_z h0 h]; rfl
theorem ixz_own {s : S} {i : Nat} {v : Int} {ws : List W} {w : W} (e : s.ρ[i]? = some (.own (.lst ws))) (h0 : 0 ≤ v) (h : ws[v.toNat]? = some w) : ixV s (.slot i) (iR v) = some (.w w) := by
  have e1 : objR s (.slot i) = some (.lst ws) := by
    unfold objR locR; simp only [e, getO]
  show (match objR s (.slot i) with
    | some (.dct _ kvs) => _
    | _ => match (D.int v) with
      | .int i => ixSeq s (.slot _) i
      | _ => none) = _
  rw [e1]
  show (match seqR s (.slot i) with
    | some p => (atI p.2 v).map R.w
    | none => none) = _
  have e2 : seqR s (.slot i) = some (true, ws) := by
    show (match objR s (.slot i) with
      | some (.lst ws) => some (true, ws)
      | _ => none) = _
    rw [e1]
  rw [e2]
  show (atI ws v).map R.w = _
  rw [atI_z h0 h]; rfl
theorem ixz_ref {s : S} {j : Nat} {v : Int} {ws : List W} {w : W} (e : s.h[j]? = some (.lst ws)) (h0 : 0 ≤ v) (h : ws[v.toNat]? = some w) : ixV s (.w (.ref j)) (iR v) = some (.w w) := by
  have e1 : objR s (.w (.ref j)) = some (.lst ws) := e
  show (match objR s (.w (.ref j)) with
    | some (.dct _ kvs) => _
    | _ => match (D.int v) with
      | .int i => ixSeq s (.w (.ref j)) i
      | _ => none) = _
  rw [e1]
  show (match seqR s (.w (.ref j)) with
    | some p => (atI p.2 v).map R.w
    | none => none) = _
  rw [seq_ref e]
  show (atI ws v).map R.w = _
  rw [atI_z h0 h]; rfl
theorem app_slot {s : S} {i : Nat} {ws : List W} {x : W} (h1 : s.ρ[i]? = some (.own (.lst ws))) (h2 : ws.length < LN) : appendV s (.slot i) [.w x] = some (.w (.d .non), ⟨s.ρ.set i (.own (.lst (ws ++ [x]))), s.h⟩) := by
  unfold appendV
  show (match locR s (.slot i) with
      | some p => match getO s p with
        | some (.lst ws) => if ws.length < LN then some (R.w (.d .non), setO s p (.lst (ws ++ [x]))) else none
        | _ => none
      | none => none) = _
  have : locR s (.slot i) = some (.sl i) := by unfold locR; simp only [h1]
  rw [this]
  show (match getO s (.sl i) with
        | some (.lst ws) => if ws.length < LN then some (R.w (.d .non), setO s (.sl i) (.lst (ws ++ [x]))) else none
        | _ => none) = _
  have : getO s (.sl i) = some (.lst ws) := by unfold getO; simp only [h1]
  rw [this]
  show (if ws.length < LN then some (R.w (.d .non), setO s (.sl i) (.lst (ws ++ [x]))) else none) = _
  rw [if_pos h2]; rfl
/-- a for whose turns keep I -/
theorem forL_inv {k : Option (Nat × O)} {g : Tg} {p : St} {I : Nat → S → Prop} (ws : List W) (n0 : Nat) (hk : ∀ n s, I n s → kept s k = true)
    (step : ∀ n s w, ws[n]? = some w → I (n0 + n) s → ∃ s1 s2, g (.w w) s = some s1 ∧ p s1 = .nx s2 ∧ I (n0 + n + 1) s2) {s : S} (h0 : I n0 s) :
    ∃ s', forL k g p ws s = .nx s' ∧ I (n0 + ws.length) s' := by
  induction ws generalizing n0 s with
  | nil => exact ⟨s, forL_nil (hk _ _ h0), h0⟩
  | cons w ws ih =>
    obtain ⟨s1, s2, a, b, c⟩ := step 0 s w rfl h0
    obtain ⟨s', d, e⟩ := ih (n0 + 1) (fun n s w hw hI => by
      have := step (n + 1) s w hw (by rw [show n0 + (n + 1) = n0 + 1 + n by omega]; exact hI)
      rw [show n0 + (n + 1) + 1 = n0 + 1 + n + 1 by omega] at this
      exact this) c
    refine ⟨s', forL_cons (hk _ _ h0) a b d, ?_⟩
    rw [List.length_cons, show n0 + (ws.length + 1) = n0 + 1 + ws.length by omega]
    exact e
/-- .. or end in a return -/
theorem forL_invR {k : Option (Nat × O)} {g : Tg} {p : St} {I : Nat → S → Prop} {P : R → S → Prop} (ws : List W) (n0 : Nat) (hk : ∀ n s, I n s → kept s k = true)
    (step : ∀ n s w, ws[n]? = some w → I (n0 + n) s → ∃ s1 s2, g (.w w) s = some s1 ∧ ((p s1 = .nx s2 ∧ I (n0 + n + 1) s2) ∨ ∃ r, p s1 = .rt r s2 ∧ P r s2)) {s : S} (h0 : I n0 s) :
    ∃ s', (forL k g p ws s = .nx s' ∧ I (n0 + ws.length) s') ∨ ∃ r, forL k g p ws s = .rt r s' ∧ P r s' := by
  induction ws generalizing n0 s with
  | nil => exact ⟨s, .inl ⟨forL_nil (hk _ _ h0), h0⟩⟩
  | cons w ws ih =>
    obtain ⟨s1, s2, a, bc⟩ := step 0 s w rfl h0
    rcases bc with ⟨b, c⟩ | ⟨r, b, c⟩
    · obtain ⟨s', d⟩ := ih (n0 + 1) (fun n s w hw hI => by
        have := step (n + 1) s w hw (by rw [show n0 + (n + 1) = n0 + 1 + n by omega]; exact hI)
        rw [show n0 + (n + 1) + 1 = n0 + 1 + n + 1 by omega] at this
        exact this) c
      rcases d with ⟨d, e⟩ | ⟨r, d, e⟩
      · refine ⟨s', .inl ⟨forL_cons (hk _ _ h0) a b d, ?_⟩⟩
        rw [List.length_cons, show n0 + (ws.length + 1) = n0 + 1 + ws.length by omega]
        exact e
      · exact ⟨s', .inr ⟨r, forL_cons (hk _ _ h0) a b d, e⟩⟩
    · exact ⟨s2, .inr ⟨r, forL_rt (hk _ _ h0) a b, c⟩⟩
/-- a call, by its body's run -/
theorem call_rt {fns : List Fn} {k j ps n : Nat} {B : Call → St} {ws : List W} {h : List O} {ρ : List E0} {r : R} {st : S} {res : Res2} (e : fns[j]? = some ⟨ps, n, B⟩) (hl : ws.length = ps) (hρ : ws.map E0.w ++ List.replicate (n - ps) E0.un = ρ)
    (hB : B (callF fns k) ⟨ρ, h⟩ = .rt r st) (ho : outF (.rt r st) = res) : callF fns (k + 1) j ws h = res := by
  show (match fns[j]? with
    | some F => if ws.length = F.ps then outF (F.body (callF fns k) ⟨ws.map E0.w ++ List.replicate (F.n - F.ps) E0.un, h⟩) else Res2.bad
    | none => Res2.bad) = _
  rw [e]
  show (if ws.length = ps then outF (B (callF fns k) ⟨ws.map E0.w ++ List.replicate (n - ps) E0.un, h⟩) else Res2.bad) = _
  rw [if_pos hl, hρ, hB]; exact ho
theorem upto0 (n : Nat) : uptoN 0 n = (List.range n).map fun i : Nat => W.d (.int (i : Int)) := by
  unfold uptoN
  exact List.map_congr_left fun i _ => by rw [Int.zero_add]
theorem itR1_z {a : Ex} {s s1 : S} {m : Int} (h1 : a s = .ok (iR m) s1) (h0 : 0 ≤ m) (h2 : m ≤ 1000000) : itR1 a s = .ok ⟨(List.range m.toNat).map fun i : Nat => W.d (.int (i : Int)), none⟩ s1 := by
  rw [itR1_ev h1 (small_ok (by omega) h2), upto0]
theorem nx_as {p : St} {s s1 s2 : S} (h : p s = .nx s1) (e : s1 = s2) : p s = .nx s2 := by subst e; exact h
theorem rt_as {p : St} {s s1 s2 : S} {r r' : R} (h : p s = .rt r s1) (e : s1 = s2) (e2 : r = r') : p s = .rt r' s2 := by subst e; subst e2; exact h
theorem ok_as {a : Ex} {s s1 s2 : S} {r r' : R} (h : a s = .ok r s1) (e : s1 = s2) (e2 : r = r') : a s = .ok r' s2 := by subst e; subst e2; exact h
theorem pop_slot {s : S} {i : Nat} {ws : List W} {w : W} {v : Int} (e : s.ρ[i]? = some (.own (.lst ws))) (h0 : 0 ≤ v) (hv : v < 9223372036854775808) (h : ws[v.toNat]? = some w) : popV s (.slot i) [.w (.d (.int v))] = some (.w w, ⟨s.ρ.set i (.own (.lst (ws.eraseIdx v.toNat))), s.h⟩) := by
  have l1 : locR s (.slot i) = some (.sl i) := by unfold locR; simp only [e]
  have l2 : getO s (.sl i) = some (.lst ws) := by unfold getO; simp only [e]
  have := (List.getElem?_eq_some_iff.mp h).1
  unfold popV
  simp only [l1, l2]
  rw [if_pos (by omega)]
  simp only [ixN_z h0 (show v < (ws.length : Nat) by omega), h]
  rfl
theorem putz_own {s : S} {i : Nat} {v : Int} {ws : List W} {w : W} (e : s.ρ[i]? = some (.own (.lst ws))) (h0 : 0 ≤ v) (h : v < (ws.length : Nat)) : putV (.slot i) (iR v) w s = some ⟨s.ρ.set i (.own (.lst (ws.set v.toNat w))), s.h⟩ := by
  have l1 : locR s (.slot i) = some (.sl i) := by unfold locR; simp only [e]
  have l2 : getO s (.sl i) = some (.lst ws) := by unfold getO; simp only [e]
  unfold putV
  simp only [l1, l2, ixN_z h0 h, Option.map_some]
  rfl
theorem putz_ref {s : S} {j : Nat} {v : Int} {ws : List W} {w : W} (e : s.h[j]? = some (.lst ws)) (h0 : 0 ≤ v) (h : v < (ws.length : Nat)) : putV (.w (.ref j)) (iR v) w s = some ⟨s.ρ, s.h.set j (.lst (ws.set v.toNat w))⟩ := by
  have l1 : locR s (.w (.ref j)) = some (.hp j) := rfl
  have l2 : getO s (.hp j) = some (.lst ws) := e
  unfold putV
  simp only [l1, l2, ixN_z h0 h, Option.map_some]
  rfl
theorem rep_one {α : Type} {x : α} : ∀ n : Nat, (List.replicate n [x]).flatten = List.replicate n x
  | 0 => rfl
  | n + 1 => by rw [List.replicate_succ, List.flatten_cons, rep_one n]; rfl
theorem mul_one {s : S} {x : W} {n : Nat} (h : n ≤ 1000) : mulV s (.new (.lst [x])) (iR (n : Int)) = some (.new (.lst (List.replicate n x))) := by
  have c : -(2 ^ 63) ≤ (n : Int) ∧ (n : Int) < 2 ^ 63 ∧ [x].length * (n : Int).toNat ≤ LN := by
    refine ⟨by omega, by omega, Nat.le_trans (m := 1000) ?_ (by decide)⟩
    simp only [List.length_cons, List.length_nil, Int.toNat_natCast]
    omega
  have e : mulV s (.new (.lst [x])) (iR (n : Int)) = if -(2 ^ 63) ≤ (n : Int) ∧ (n : Int) < 2 ^ 63 ∧ [x].length * (n : Int).toNat ≤ LN then some (R.new (.lst (List.replicate (n : Int).toNat [x]).flatten)) else none := rfl
  rw [e, if_pos c, Int.toNat_natCast, rep_one]
theorem mul_tup {s : S} {x : D} {n : Nat} (h : n ≤ 1000) : mulV s (.w (.d (.tup [x]))) (iR (n : Int)) = some (.w (.d (.tup (List.replicate n x)))) := by
  have c : -1000 ≤ (n : Int) ∧ (n : Int) ≤ 1000 ∧ [x].length ≤ 1000 := ⟨by omega, by omega, by simp⟩
  have e : mulV s (.w (.d (.tup [x]))) (iR (n : Int)) = if -1000 ≤ (n : Int) ∧ (n : Int) ≤ 1000 ∧ [x].length ≤ 1000 then some (R.w (.d (.tup (List.replicate (n : Int).toNat [x]).flatten))) else none := rfl
  rw [e, if_pos c, Int.toNat_natCast, rep_one]
theorem tup_map {s : S} {xs : List D} : tupleV s (.new (.lst (xs.map W.d))) = some (.w (.d (.tup xs))) := by
  show some (R.w (mkTup (xs.map W.d))) = _
  rw [mkTup_map]
theorem str_v {s : S} {i : Int} (h : i.natAbs.log2 < 1920) : strV s (iR i) = some (.w (.d (.str ((toString i).toList.map Char.toNat)))) := by
  show (if i.natAbs.log2 < 1920 then some (R.w (.d (.str ((toString i).toList.map Char.toNat)))) else none) = _
  rw [if_pos h]
theorem isi_ref {s : S} {j : Nat} {T : Ty} {ws : List W} (e : s.h[j]? = some (.lst ws)) : isiV T s (.w (.ref j)) = some (bR (isiB .lst T)) := by
  show (tyR s (.w (.ref j))).map _ = _
  have : tyR s (.w (.ref j)) = some .lst := by
    show (match objR s (.w (.ref j)) with
      | some (.lst _) => some Ty.lst
      | some (.dct _ _) => some .dct
      | _ => none) = _
    rw [show objR s (.w (.ref j)) = some (.lst ws) from e]
  rw [this]; rfl
theorem cut_len {α : Type} {xs : List α} {lo hi : Option Int} : (cut xs lo hi).length ≤ xs.length := by
  unfold cut
  rw [List.length_take, List.length_drop]; omega
theorem add_tup {s : S} {a b : List D} (h : a.length + b.length ≤ 1000000) : addV s (.w (.d (.tup a))) (.w (.d (.tup b))) = some (.w (.d (.tup (a ++ b)))) := by
  show (if a.length + b.length ≤ LN then some (R.w (.d (.tup (a ++ b)))) else none) = _
  rw [if_pos (Nat.le_trans h (by decide))]
/-- a comprehension over data, item by item -/
theorem lcA {α : Type} {e : Ex} {ρ : List E0} {i : Nat} {h : List O} (it : α → W) (f : α → D) (hi : i < ρ.length) (xs : List α) (he : ∀ x ∈ xs, e ⟨ρ.set i (.w (it x)), h⟩ = .ok (.w (.d (f x))) ⟨ρ.set i (.w (it x)), h⟩) :
    ∀ (acc : List W) (e0 : E0), e0.free = true → acc.length + xs.length ≤ LN → ∃ e1, e1.free = true ∧ lcL none (tgV i) yesT e [i] (xs.map it) acc ⟨ρ.set i e0, h⟩ = some (acc ++ (xs.map f).map W.d, ⟨ρ.set i e1, h⟩) := by
  induction xs with
  | nil =>
    intro acc e0 h0 hl
    refine ⟨e0, h0, ?_⟩
    show (if (kept _ none && frees [i] _) = true then _ else _) = _
    rw [if_pos (by simp [kept, frees, List.getD_eq_getElem?_getD, List.getElem?_set_self hi, h0])]
    simp
  | cons x xs ih =>
    intro acc e0 h0 hl
    simp only [List.length_cons] at hl
    obtain ⟨e1, h1, E⟩ := ih (fun y hy => he y (List.mem_cons_of_mem _ hy)) (acc ++ [.d (f x)]) (.w (it x)) rfl (by rw [List.length_append]; simp only [List.length_cons, List.length_nil]; omega)
    refine ⟨e1, h1, ?_⟩
    show lcL none (tgV i) yesT e [i] (it x :: xs.map it) acc ⟨ρ.set i e0, h⟩ = _
    unfold lcL
    rw [if_pos (by simp [kept, frees, List.getD_eq_getElem?_getD, List.getElem?_set_self hi, h0])]
    have a1 : tgV i (.w (it x)) ⟨wipe [i] (ρ.set i e0), h⟩ = some ⟨ρ.set i (.w (it x)), h⟩ := by
      show (if i < ((ρ.set i e0).set i .un).length then some (⟨((ρ.set i e0).set i .un).set i (.w (it x)), h⟩ : S) else none) = _
      rw [if_pos (by simpa using hi), List.set_set, List.set_set]
    rw [a1]
    show (match e ⟨ρ.set i (.w (it x)), h⟩ with
        | .ok r s3 => (match boxR r s3 with
          | some (y, s4) => if acc.length < LN then lcL none (tgV i) yesT e [i] (xs.map it) (acc ++ [y]) s4 else none
          | none => none)
        | _ => none) = _
    rw [he x List.mem_cons_self]
    show (if acc.length < LN then lcL none (tgV i) yesT e [i] (xs.map it) (acc ++ [.d (f x)]) ⟨ρ.set i (.w (it x)), h⟩ else none) = _
    rw [if_pos (by omega), E, List.append_assoc]
    rfl
/-- .. of whole numbers -/
theorem lcI {e : Ex} {ρ : List E0} {i : Nat} {h : List O} {e0 : E0} (f : Int → D) (hi : i < ρ.length) (hg : ρ[i]? = some e0) (h0 : e0.free = true) (ps : List Int) (hl : ps.length ≤ LN) (he : ∀ p ∈ ps, e ⟨ρ.set i (.w (.d (.int p))), h⟩ = .ok (.w (.d (f p))) ⟨ρ.set i (.w (.d (.int p))), h⟩) :
    ∃ e1, lcL none (tgV i) yesT e [i] ((ps.map D.int).map W.d) [] ⟨ρ, h⟩ = some ((ps.map f).map W.d, ⟨ρ.set i e1, h⟩) := by
  obtain ⟨e1, _, E⟩ := lcA (fun p : Int => W.d (.int p)) f hi ps he [] e0 h0 (by simpa using hl)
  have e2 : ρ.set i e0 = ρ := by
    apply List.ext_getElem?
    intro j
    by_cases z : i = j
    · subst z; rw [List.getElem?_set_self hi, hg]
    · rw [List.getElem?_set_ne z]
  rw [e2, List.nil_append] at E
  rw [List.map_map]
  exact ⟨e1, E⟩
theorem call_ex {fns : List Fn} {k j ps n : Nat} {B : Call → St} {ws : List W} {h : List O} {ρ : List E0} {res : Res2} (e : fns[j]? = some ⟨ps, n, B⟩) (hl : ws.length = ps) (hρ : ws.map E0.w ++ List.replicate (n - ps) E0.un = ρ)
    (hB : ∃ r st, B (callF fns k) ⟨ρ, h⟩ = .rt r st ∧ outF (.rt r st) = res) : callF fns (k + 1) j ws h = res := by
  obtain ⟨r, st, h1, h2⟩ := hB
  exact call_rt e hl hρ h1 h2
theorem eqV_int {s : S} {i j : Int} : eqV s (iR i) (iR j) = some (bR (decide (i = j))) := by
  show some (bR (i == j)) = _
  by_cases q : i = j
  · subst q; simp
  · rw [decide_eq_false q, beq_eq_false_iff_ne.mpr q]
theorem neV_int {s : S} {i j : Int} : neV s (iR i) (iR j) = some (bR (!decide (i = j))) := by
  show some (bR (!(i == j))) = _
  by_cases q : i = j
  · subst q; simp
  · rw [decide_eq_false q, beq_eq_false_iff_ne.mpr q]
theorem ins_slot {s : S} {i : Nat} {ws : List W} {x : W} {v : Int} (h1 : s.ρ[i]? = some (.own (.lst ws))) (h2 : ws.length < LN) (h0 : 0 ≤ v) (hv : v < 9223372036854775808) : insertV s (.slot i) [.w (.d (.int v)), .w x] = some (.w (.d .non), ⟨s.ρ.set i (.own (.lst (ws.take v.toNat ++ [x] ++ ws.drop v.toNat))), s.h⟩) := by
  have l1 : locR s (.slot i) = some (.sl i) := by unfold locR; simp only [h1]
  have l2 : getO s (.sl i) = some (.lst ws) := by unfold getO; simp only [h1]
  unfold insertV
  have b : boxR (.w x) s = some (x, s) := rfl
  simp only [b, l1, l2]
  rw [if_pos ⟨h2, h0, by omega⟩]
  rfl
theorem ex1 {α : Type} {P Q : α → Prop} {a : α} (h : P a) (q : Q a) : ∃ a, P a ∧ Q a := ⟨a, h, q⟩
theorem ex2 {α β : Type} {P Q : α → β → Prop} {a : α} {b : β} (h : P a b) (q : Q a b) : ∃ a b, P a b ∧ Q a b := ⟨a, b, h, q⟩
theorem ex3 {α β γ : Type} {P Q : α → β → γ → Prop} {a : α} {b : β} {c : γ} (h : P a b c) (q : Q a b c) : ∃ a b c, P a b c ∧ Q a b c := ⟨a, b, c, h, q⟩
theorem ex4 {α β γ δ : Type} {P Q : α → β → γ → δ → Prop} {a : α} {b : β} {c : γ} {d : δ} (h : P a b c d) (q : Q a b c d) : ∃ a b c d, P a b c d ∧ Q a b c d := ⟨a, b, c, d, h, q⟩
end Mn

set_option linter.all false
/-! MnTac2: more lemmas of the step tactic. Plain Lean. -/
namespace Mn
theorem sIx_nat (n d k : Nat) : sIx n d (some (k : Int)) = min k n := by
  show (if (k : Int) < 0 then ((k : Int) + (n : Int)).toNat else min (k : Int).toNat n) = _
  rw [if_neg (by omega), Int.toNat_natCast]
theorem cut_take {α : Type} (xs : List α) (k : Nat) : cut xs none (some (k : Int)) = xs.take k := by
  unfold cut
  rw [sIx_nat]
  show (xs.drop 0).take (min k xs.length - 0) = _
  rw [List.drop_zero, Nat.sub_zero]
  by_cases h : k ≤ xs.length
  · rw [Nat.min_eq_left h]
  · rw [Nat.min_eq_right (by omega), List.take_length, List.take_of_length_le (by omega)]
theorem cut_drop {α : Type} (xs : List α) (k : Nat) : cut xs (some (k : Int)) none = xs.drop k := by
  unfold cut
  rw [sIx_nat]
  show (xs.drop (min k xs.length)).take (xs.length - min k xs.length) = _
  by_cases h : k ≤ xs.length
  · rw [Nat.min_eq_left h, List.take_of_length_le (by rw [List.length_drop]; omega)]
  · rw [Nat.min_eq_right (by omega), List.drop_length, List.drop_of_length_le (by omega), List.take_nil]
theorem eqvs_int : ∀ {p q : List Int}, D.eqvs (p.map D.int) (q.map D.int) = decide (p = q)
  | [], [] => rfl
  | [], _ :: _ => rfl
  | _ :: _, [] => rfl
  | a :: p, b :: q => by
    show ((a == b) && D.eqvs (p.map D.int) (q.map D.int)) = _
    rw [eqvs_int]
    by_cases h : a = b
    · subst h; simp
    · rw [beq_eq_false_iff_ne.mpr h]; simp [h]
theorem depth_int : ∀ {p : List Int}, D.depths (p.map D.int) = 0
  | [] => rfl
  | a :: p => by show max 0 (D.depths (p.map D.int)) = 0; rw [depth_int]; rfl
end Mn
namespace Mn
section
variable {s : S} {α : Type} {f : α → D}
theorem len_map {l : List α} : lenV s (.w (.d (.tup (l.map f)))) = some (iR (l.length : Nat)) := by
  show some (iR (((l.map f).map W.d).length : Nat)) = _
  rw [List.length_map, List.length_map]
theorem slV_take {l : List α} {k : Nat} : slV s (.w (.d (.tup (l.map f)))) none (some (k : Int)) = some (.w (.d (.tup ((l.take k).map f)))) := by
  show some (R.w (.d (.tup (cut (l.map f) none (some (k : Int)))))) = _
  rw [cut_take, List.map_take]
theorem slV_drop {l : List α} {k : Nat} : slV s (.w (.d (.tup (l.map f)))) (some (k : Int)) none = some (.w (.d (.tup ((l.drop k).map f)))) := by
  show some (R.w (.d (.tup (cut (l.map f) (some (k : Int)) none)))) = _
  rw [cut_drop, List.map_drop]
theorem slV_takez {l : List α} {v : Int} (h : 0 ≤ v) : slV s (.w (.d (.tup (l.map f)))) none (some v) = some (.w (.d (.tup ((l.take v.toNat).map f)))) := by
  obtain ⟨k, rfl⟩ := Int.eq_ofNat_of_zero_le h
  rw [Int.toNat_natCast]; exact slV_take
theorem slV_dropz {l : List α} {v : Int} (h : 0 ≤ v) : slV s (.w (.d (.tup (l.map f)))) (some v) none = some (.w (.d (.tup ((l.drop v.toNat).map f)))) := by
  obtain ⟨k, rfl⟩ := Int.eq_ofNat_of_zero_le h
  rw [Int.toNat_natCast]; exact slV_drop
theorem add_map {a b : List α} (h : a.length + b.length ≤ 1000000) : addV s (.w (.d (.tup (a.map f)))) (.w (.d (.tup (b.map f)))) = some (.w (.d (.tup ((a ++ b).map f)))) := by
  rw [List.map_append]
  exact add_tup (by rw [List.length_map, List.length_map]; exact h)
theorem eqV_pile {p q : List Int} : eqV s (.w (.d (.tup (p.map D.int)))) (.w (.d (.tup (q.map D.int)))) = some (bR (decide (p = q))) := by
  show (if min (D.depths (p.map D.int) + 1) (D.depths (q.map D.int) + 1) ≤ 64 then some (bR ((false == false) && D.eqvs (p.map D.int) (q.map D.int))) else none) = _
  rw [depth_int, depth_int, eqvs_int]; rfl
theorem neV_pile {p q : List Int} : neV s (.w (.d (.tup (p.map D.int)))) (.w (.d (.tup (q.map D.int)))) = some (bR (!decide (p = q))) := by
  show (if min (D.depths (p.map D.int) + 1) (D.depths (q.map D.int) + 1) ≤ 64 then some (bR (!((false == false) && D.eqvs (p.map D.int) (q.map D.int)))) else none) = _
  rw [depth_int, depth_int, eqvs_int]; rfl
theorem eqV_eff {a b c d : List Int} : eqV s (.w (.d (.tup [.tup (a.map D.int), .tup (b.map D.int)]))) (.w (.d (.tup [.tup (c.map D.int), .tup (d.map D.int)]))) = some (bR (decide (a = c) && decide (b = d))) := by
  show (if min (max (D.depths (a.map D.int) + 1) (max (D.depths (b.map D.int) + 1) 0) + 1) (max (D.depths (c.map D.int) + 1) (max (D.depths (d.map D.int) + 1) 0) + 1) ≤ 64 then some (bR ((false == false) && (D.eqvs (a.map D.int) (c.map D.int) && (D.eqvs (b.map D.int) (d.map D.int) && true)))) else none) = _
  rw [depth_int, depth_int, depth_int, depth_int, eqvs_int, eqvs_int, Bool.and_true]; rfl
end
end Mn

set_option maxHeartbeats 0
namespace HeadT
open Mn
def K_BODIES_MOST : D := .int 8
def K_DEEDS_MOST : D := .int 40
def K_DEPTH_MOST : D := .int 12
def K_KEPT_WORDS : D := .tup [.str [107, 105, 110, 100, 115], .str [100, 101, 101, 100], .str [116, 111], .str [119, 111, 114, 100], .str [101, 105, 116, 104, 101, 114], .str [111, 114], .str [108, 111, 111, 112], .str [114, 101, 112, 101, 97, 116], .str [98, 97, 99, 107]]
def K_KINDS_MOST : D := .int 24
def K_NO_EFFECT : D := .tup [.tup [], .tup []]
def K_REPEAT_MOST : D := .int 100
def K_SIGNS : D := .str [58, 59, 44, 123, 125]
def K_SMALL_LETTERS : D := .str [97, 98, 99, 100, 101, 102, 103, 104, 105, 106, 107, 108, 109, 110, 111, 112, 113, 114, 115, 116, 117, 118, 119, 120, 121, 122]
def K_STATEMENTS_MOST : D := .int 200
def K_TAKEN_MOST : D := .int 6
def K_TEN_FIGURES : D := .str [48, 49, 50, 51, 52, 53, 54, 55, 56, 57]
def K_WORDS_MOST : D := .int 12
def K_WORD_MOST : D := .int 12
/-- begins: pile, front -/
def B0 (call : Call) : Mn.St := retS (op2 eqV (slE (vE 0) (noO) (someO (op1 lenV (vE 1)))) (vE 1))
/-- joined: one, other, off, on, wanted, put -/
def B1 (call : Call) : Mn.St := seqS (unpS (tgT [tgV 2, tgV 3]) (vE 0)) (seqS (unpS (tgT [tgV 4, tgV 5]) (vE 1)) (seqS (ifS (tst (callH call 0 (asC (vE 4) (asC (vE 3) (asN))))) (retS (tupE (asC (op2 addV (vE 2) (slE (vE 4) (someO (op1 lenV (vE 3))) (noO))) (asC (vE 5) (asN))))) (nxS)) (seqS (ifS (tst (callH call 0 (asC (vE 3) (asC (vE 4) (asN))))) (retS (tupE (asC (vE 2) (asC (op2 addV (vE 5) (slE (vE 3) (someO (op1 lenV (vE 4))) (noO))) (asN))))) (nxS)) (retS (kE .non)))))
def B2_1 (call : Call) : Mn.St := setS 1 (iteE (tst (op2 isV (vE 1) (kE .non))) (kE .non) (callH call 1 (asC (vE 1) (asC (vE 2) (asN)))))
/-- all_joined: effects, found, effect -/
def B2 (call : Call) : Mn.St := seqS (setS 1 (kE K_NO_EFFECT)) (seqS (forS (itE (vE 0)) (tgV 2) (B2_1 call)) (retS (vE 1)))
/-- extended: effect, pile -/
def B3 (call : Call) : Mn.St := retS (tupE (asC (op2 addV (op2 ixV (vE 0) (kE (.int 0))) (vE 1)) (asC (op2 addV (op2 ixV (vE 0) (kE (.int 1))) (vE 1)) (asN))))
/-- is_extended: one, other, many, pile -/
def B4 (call : Call) : Mn.St := seqS (setS 2 (op2 subV (op1 lenV (op2 ixV (vE 0) (kE (.int 0)))) (op1 lenV (op2 ixV (vE 1) (kE (.int 0)))))) (seqS (ifS (orT (tst (op2 ltV (vE 2) (kE (.int 0)))) (tst (op2 neV (op2 subV (op1 lenV (op2 ixV (vE 0) (kE (.int 1)))) (op1 lenV (op2 ixV (vE 1) (kE (.int 1))))) (vE 2)))) (retS (kE (.bl false))) (nxS)) (seqS (setS 3 (slE (op2 ixV (vE 0) (kE (.int 0))) (someO (op1 lenV (op2 ixV (vE 1) (kE (.int 0))))) (noO))) (retS (op2 eqV (vE 0) (tupE (asC (op2 addV (op2 ixV (vE 1) (kE (.int 0))) (vE 3)) (asC (op2 addV (op2 ixV (vE 1) (kE (.int 1))) (vE 3)) (asN))))))))
/-- are_alike: one, other -/
def B5 (call : Call) : Mn.St := retS (orE (callH call 4 (asC (vE 0) (asC (vE 1) (asN)))) (callH call 4 (asC (vE 1) (asC (vE 0) (asN)))))
def B6_1 (call : Call) : Mn.St := setS 2 (iteE (tst (op2 isV (vE 2) (kE .non))) (kE .non) (callH call 1 (asC (vE 2) (asC (slE (op2 ixV (op2 ixV (vE 0) (kE (.int 1))) (vE 3)) (someO (kE (.int 1))) (noO)) (asN)))))
/-- row_effect: program, row, found, deed -/
def B6 (call : Call) : Mn.St := seqS (setS 2 (kE K_NO_EFFECT)) (seqS (forS (itE (vE 1)) (tgV 3) (B6_1 call)) (retS (vE 2)))
/-- is_row_for: program, row, effect, found -/
def B7 (call : Call) : Mn.St := seqS (setS 3 (callH call 6 (asC (vE 0) (asC (vE 1) (asN))))) (retS (andE (op2 isntV (vE 3) (kE .non)) (callH call 4 (asC (vE 2) (asC (vE 3) (asN))))))
def B8_1 (call : Call) : Mn.St := seqS (setS 7 (callH call 1 (asC (vE 4) (asC (slE (vE 6) (someO (kE (.int 1))) (noO)) (asN))))) (ifS (tst (op2 isntV (vE 7) (kE .non))) (exprS (meth appendV (vE 2) (asC (tupE (asC (op2 addV (vE 3) (tupE (asC (vE 5) (asN)))) (asC (vE 7) (asN)))) (asN)))) (nxS))
def B8_2 (call : Call) : Mn.St := forS (itEnum (op2 ixV (vE 0) (kE (.int 1)))) (tgT [tgV 5, tgV 6]) (B8_1 call)
/-- longer_rows: program, rows, found, row, effect, number, deed, there -/
def B8 (call : Call) : Mn.St := seqS (setS 2 (lstE (asN))) (seqS (forS (itE (vE 1)) (tgT [tgV 3, tgV 4]) (B8_2 call)) (retS (vE 2)))
def B9_1 (call : Call) : Mn.St := ifS (tst (callH call 4 (asC (vE 1) (asC (vE 6) (asN))))) (retS (vE 5)) (nxS)
def B9_2 (call : Call) : Mn.St := seqS (forS (itE (vE 3)) (tgT [tgV 5, tgV 6]) (B9_1 call)) (ifS (tst (op2 ltV (vE 4) (vE 2))) (setS 3 (callH call 8 (asC (vE 0) (asC (vE 3) (asN))))) (nxS))
/-- shortest_row: program, effect, most, rows, lap, row, told -/
def B9 (call : Call) : Mn.St := seqS (setS 3 (lstE (asC (tupE (asC (tupE (asN)) (asC (kE K_NO_EFFECT) (asN)))) (asN)))) (seqS (forS (itR1 (op2 addV (vE 2) (kE (.int 1)))) (tgV 4) (B9_2 call)) (retS (kE .non)))
/-- text_lines: text -/
def B10 (call : Call) : Mn.St := retS (iteE (tst (op2 neV (vE 0) (kE (.str [])))) (smeth1 splitV (vE 0) (kE (.str [10]))) (lstE (asN)))
/-- behind_lines: text -/
def B11 (call : Call) : Mn.St := retS (op2 addV (op1 lenV (callH call 10 (asC (vE 0) (asN)))) (kE (.int 1)))
def B12_1 (call : Call) : Mn.St := augS augAdd 1 (kE (.int 1))
/-- end_of: line, place, signs -/
def B12 (call : Call) : Mn.St := seqS (whileS (andT (tst (op2 ltV (vE 1) (op1 lenV (vE 0)))) (tst (op2 (inV false) (op2 ixV (vE 0) (vE 1)) (vE 2)))) (B12_1 call)) (retS (vE 1))
/-- token_at: number, line, place, kind, end -/
def B13 (call : Call) : Mn.St := seqS (ifS (tst (op2 (inV false) (op2 ixV (vE 1) (vE 2)) (kE K_SMALL_LETTERS))) (seqS (setS 3 (kE (.str [119, 111, 114, 100]))) (setS 4 (callH call 12 (asC (vE 1) (asC (vE 2) (asC (op2 addV (kE K_SMALL_LETTERS) (kE K_TEN_FIGURES)) (asN))))))) (ifS (tst (op2 (inV false) (op2 ixV (vE 1) (vE 2)) (kE K_TEN_FIGURES))) (seqS (setS 3 (kE (.str [110, 117, 109, 98, 101, 114]))) (setS 4 (callH call 12 (asC (vE 1) (asC (vE 2) (asC (kE K_TEN_FIGURES) (asN))))))) (ifS (tst (op2 (inV false) (op2 ixV (vE 1) (vE 2)) (kE K_SIGNS))) (seqS (setS 3 (kE (.str [115, 105, 103, 110]))) (setS 4 (op2 addV (vE 2) (kE (.int 1))))) (badS)))) (seqS (ifS (tst (op2 gtV (op2 subV (vE 4) (vE 2)) (kE K_WORD_MOST))) (badS) (nxS)) (seqS (ifS (andT (tst (op2 eqV (vE 3) (kE (.str [110, 117, 109, 98, 101, 114])))) (andT (tst (op2 gtV (op2 subV (vE 4) (vE 2)) (kE (.int 1)))) (tst (op2 eqV (op2 ixV (vE 1) (vE 2)) (kE (.str [48])))))) (badS) (nxS)) (retS (tupE (asC (vE 3) (asC (slE (vE 1) (someO (vE 2)) (someO (vE 4))) (asC (vE 0) (asC (op2 addV (vE 2) (kE (.int 1))) (asN)))))))))
def B14_1 (call : Call) : Mn.St := seqS (setS 4 (callH call 13 (asC (vE 0) (asC (vE 1) (asC (vE 3) (asN)))))) (seqS (exprS (meth appendV (vE 2) (asC (vE 4) (asN)))) (setS 3 (callH call 12 (asC (vE 1) (asC (op2 addV (vE 3) (op1 lenV (op2 ixV (vE 4) (kE (.int 1))))) (asC (kE (.str [32])) (asN)))))))
/-- line_tokens: number, line, found, place, token -/
def B14 (call : Call) : Mn.St := seqS (setS 2 (lstE (asN))) (seqS (setS 3 (callH call 12 (asC (vE 1) (asC (kE (.int 0)) (asC (kE (.str [32])) (asN)))))) (seqS (whileS (andT (tst (op2 ltV (vE 3) (op1 lenV (vE 1)))) (tst (op2 neV (op2 ixV (vE 1) (vE 3)) (kE (.str [35]))))) (B14_1 call)) (retS (vE 2))))
def B15_1 (call : Call) : Mn.St := setS 1 (op2 addV (vE 1) (callH call 14 (asC (op2 addV (vE 2) (kE (.int 1))) (asC (vE 3) (asN)))))
/-- tokens_of: text, found, at, line -/
def B15 (call : Call) : Mn.St := seqS (setS 1 (lstE (asN))) (seqS (forS (itEnum (smeth1 splitV (vE 0) (kE (.str [10])))) (tgT [tgV 2, tgV 3]) (B15_1 call)) (retS (op1 tupleV (vE 1))))
/-- Reader.__init__: self, text -/
def B16 (call : Call) : Mn.St := seqS (fldS [0] 15 (vE 0) (callH call 15 (asC (vE 1) (asN)))) (seqS (fldS [0] 6 (vE 0) (callH call 11 (asC (vE 1) (asN)))) (fldS [0] 11 (vE 0) (kE (.int 0))))
/-- Reader.refuse: self, word, line, place -/
def B17 (call : Call) : Mn.St := seqS (unpS (tgT [tgV 2, tgV 3]) (methE call 0 18 2 (vE 0) asN)) (badS)
/-- Reader.here: self -/
def B18 (call : Call) : Mn.St := seqS (ifS (tst (op2 ltV (op1 (fldV [0] 11) (vE 0)) (op1 lenV (op1 (fldV [0] 15) (vE 0))))) (retS (slE (op2 ixV (op1 (fldV [0] 15) (vE 0)) (op1 (fldV [0] 11) (vE 0))) (someO (kE (.int 2))) (noO))) (nxS)) (retS (tupE (asC (op1 (fldV [0] 6) (vE 0)) (asC (kE (.int 1)) (asN)))))
/-- Reader.is_token: self, kind, word -/
def B19 (call : Call) : Mn.St := retS (andE (op2 ltV (op1 (fldV [0] 11) (vE 0)) (op1 lenV (op1 (fldV [0] 15) (vE 0)))) (op2 eqV (slE (op2 ixV (op1 (fldV [0] 15) (vE 0)) (op1 (fldV [0] 11) (vE 0))) (noO) (someO (kE (.int 2)))) (tupE (asC (vE 1) (asC (vE 2) (asN))))))
/-- Reader.is_name: self -/
def B20 (call : Call) : Mn.St := seqS (ifS (orT (tst (op2 eqV (op1 (fldV [0] 11) (vE 0)) (op1 lenV (op1 (fldV [0] 15) (vE 0))))) (tst (op2 neV (op2 ixV (op2 ixV (op1 (fldV [0] 15) (vE 0)) (op1 (fldV [0] 11) (vE 0))) (kE (.int 0))) (kE (.str [119, 111, 114, 100]))))) (retS (kE (.bl false))) (nxS)) (retS (op2 (inV true) (op2 ixV (op2 ixV (op1 (fldV [0] 15) (vE 0)) (op1 (fldV [0] 11) (vE 0))) (kE (.int 1))) (kE K_KEPT_WORDS)))
/-- Reader.take: self, where -/
def B21 (call : Call) : Mn.St := seqS (setS 1 (methE call 0 18 2 (vE 0) asN)) (seqS (augF augAdd [0] 11 (vE 0) (kE (.int 1))) (retS (tupE (asC (op2 ixV (op2 ixV (op1 (fldV [0] 15) (vE 0)) (op2 subV (op1 (fldV [0] 11) (vE 0)) (kE (.int 1)))) (kE (.int 1))) (asC (vE 1) (asN))))))
/-- Reader.name: self -/
def B22 (call : Call) : Mn.St := seqS (ifS (notT (tst (methE call 0 20 3 (vE 0) asN))) (exprS (methE call 0 17 12 (vE 0) (asC (kE (.str [110, 97, 109, 101])) (asN)))) (nxS)) (retS (methE call 0 21 14 (vE 0) asN))
def B23_1 (call : Call) : Mn.St := exprS (meth appendV (vE 1) (asC (methE call 0 21 14 (vE 0) asN) (asN)))
/-- Reader.names: self, found -/
def B23 (call : Call) : Mn.St := seqS (setS 1 (lstE (asN))) (seqS (whileS (tst (methE call 0 20 3 (vE 0) asN)) (B23_1 call)) (retS (op1 tupleV (vE 1))))
/-- Reader.number: self, word, where -/
def B24 (call : Call) : Mn.St := seqS (ifS (orT (tst (op2 eqV (op1 (fldV [0] 11) (vE 0)) (op1 lenV (op1 (fldV [0] 15) (vE 0))))) (tst (op2 neV (op2 ixV (op2 ixV (op1 (fldV [0] 15) (vE 0)) (op1 (fldV [0] 11) (vE 0))) (kE (.int 0))) (kE (.str [110, 117, 109, 98, 101, 114]))))) (exprS (methE call 0 17 12 (vE 0) (asC (kE (.str [110, 117, 109, 98, 101, 114])) (asN)))) (nxS)) (seqS (unpS (tgT [tgV 1, tgV 2]) (methE call 0 21 14 (vE 0) asN)) (retS (tupE (asC (op1 intV (vE 1)) (asC (vE 2) (asN))))))
/-- Reader.word: self, word -/
def B25 (call : Call) : Mn.St := seqS (ifS (notT (tst (methE call 0 19 4 (vE 0) (asC (kE (.str [119, 111, 114, 100])) (asC (vE 1) (asN)))))) (exprS (methE call 0 17 12 (vE 0) (asC (vE 1) (asN)))) (nxS)) (retS (op2 ixV (methE call 0 21 14 (vE 0) asN) (kE (.int 1))))
/-- Reader.sign: self, sign -/
def B26 (call : Call) : Mn.St := seqS (ifS (notT (tst (methE call 0 19 4 (vE 0) (asC (kE (.str [115, 105, 103, 110])) (asC (vE 1) (asN)))))) (exprS (methE call 0 17 12 (vE 0) (asC (kE (.str [115, 105, 103, 110])) (asN)))) (nxS)) (augF augAdd [0] 11 (vE 0) (kE (.int 1)))
def B27_1 (call : Call) : Mn.St := seqS (augF augAdd [0] 11 (vE 0) (kE (.int 1))) (exprS (meth appendV (vE 1) (asC (methE call 0 22 8 (vE 0) asN) (asN))))
/-- read_kinds: reader, found -/
def B27 (call : Call) : Mn.St := seqS (exprS (methE call 0 25 16 (vE 0) (asC (kE (.str [107, 105, 110, 100, 115])) (asN)))) (seqS (setS 1 (lstE (asC (methE call 0 22 8 (vE 0) asN) (asN)))) (seqS (whileS (tst (methE call 0 19 4 (vE 0) (asC (kE (.str [115, 105, 103, 110])) (asC (kE (.str [44])) (asN))))) (B27_1 call)) (seqS (exprS (methE call 0 26 13 (vE 0) (asC (kE (.str [59])) (asN)))) (retS (op1 tupleV (vE 1))))))
/-- read_deed: reader, name, off, put -/
def B28 (call : Call) : Mn.St := seqS (exprS (methE call 0 25 16 (vE 0) (asC (kE (.str [100, 101, 101, 100])) (asN)))) (seqS (setS 1 (methE call 0 22 8 (vE 0) asN)) (seqS (exprS (methE call 0 26 13 (vE 0) (asC (kE (.str [58])) (asN)))) (seqS (setS 2 (methE call 0 23 9 (vE 0) asN)) (seqS (exprS (methE call 0 25 16 (vE 0) (asC (kE (.str [116, 111])) (asN)))) (seqS (setS 3 (methE call 0 23 9 (vE 0) asN)) (seqS (exprS (methE call 0 26 13 (vE 0) (asC (kE (.str [59])) (asN)))) (retS (tupE (asC (vE 1) (asC (vE 2) (asC (vE 3) (asN))))))))))))
def B29_1 (call : Call) : Mn.St := seqS (augF augAdd [0] 11 (vE 0) (kE (.int 1))) (exprS (meth appendV (vE 2) (asC (callH call 31 (asC (vE 0) (asN))) (asN))))
/-- read_either: reader, where, blocks -/
def B29 (call : Call) : Mn.St := seqS (setS 1 (methE call 0 25 16 (vE 0) (asC (kE (.str [101, 105, 116, 104, 101, 114])) (asN)))) (seqS (setS 2 (lstE (asC (callH call 31 (asC (vE 0) (asN))) (asN)))) (seqS (exprS (methE call 0 25 16 (vE 0) (asC (kE (.str [111, 114])) (asN)))) (seqS (exprS (meth appendV (vE 2) (asC (callH call 31 (asC (vE 0) (asN))) (asN)))) (seqS (whileS (tst (methE call 0 19 4 (vE 0) (asC (kE (.str [119, 111, 114, 100])) (asC (kE (.str [111, 114])) (asN))))) (B29_1 call)) (retS (tupE (asC (kE (.str [101, 105, 116, 104, 101, 114])) (asC (op1 tupleV (vE 2)) (asC (vE 1) (asN))))))))))
/-- read_statement: reader, where, number, told -/
def B30 (call : Call) : Mn.St := seqS (ifS (tst (methE call 0 19 4 (vE 0) (asC (kE (.str [119, 111, 114, 100])) (asC (kE (.str [101, 105, 116, 104, 101, 114])) (asN))))) (retS (callH call 29 (asC (vE 0) (asN)))) (nxS)) (seqS (ifS (tst (methE call 0 19 4 (vE 0) (asC (kE (.str [119, 111, 114, 100])) (asC (kE (.str [108, 111, 111, 112])) (asN))))) (seqS (setS 1 (methE call 0 25 16 (vE 0) (asC (kE (.str [108, 111, 111, 112])) (asN)))) (retS (tupE (asC (kE (.str [108, 111, 111, 112])) (asC (callH call 31 (asC (vE 0) (asN))) (asC (vE 1) (asN))))))) (nxS)) (seqS (ifS (tst (methE call 0 19 4 (vE 0) (asC (kE (.str [119, 111, 114, 100])) (asC (kE (.str [114, 101, 112, 101, 97, 116])) (asN))))) (seqS (setS 1 (methE call 0 25 16 (vE 0) (asC (kE (.str [114, 101, 112, 101, 97, 116])) (asN)))) (seqS (setS 2 (methE call 0 24 10 (vE 0) asN)) (retS (tupE (asC (kE (.str [114, 101, 112, 101, 97, 116])) (asC (vE 2) (asC (callH call 31 (asC (vE 0) (asN))) (asC (vE 1) (asN))))))))) (nxS)) (seqS (ifS (tst (methE call 0 19 4 (vE 0) (asC (kE (.str [119, 111, 114, 100])) (asC (kE (.str [98, 97, 99, 107])) (asN))))) (setS 3 (tupE (asC (kE (.str [98, 97, 99, 107])) (asC (methE call 0 25 16 (vE 0) (asC (kE (.str [98, 97, 99, 107])) (asN))) (asN))))) (ifS (tst (methE call 0 20 3 (vE 0) asN)) (setS 3 (tupE (asC (kE (.str [100, 111])) (asC (methE call 0 21 14 (vE 0) asN) (asN))))) (exprS (methE call 0 17 12 (vE 0) (asC (kE (.str [115, 116, 97, 116, 101, 109, 101, 110, 116])) (asN)))))) (seqS (exprS (methE call 0 26 13 (vE 0) (asC (kE (.str [59])) (asN)))) (retS (vE 3))))))
def B31_1 (call : Call) : Mn.St := exprS (meth appendV (vE 1) (asC (callH call 30 (asC (vE 0) (asN))) (asN)))
/-- read_block: reader, found -/
def B31 (call : Call) : Mn.St := seqS (exprS (methE call 0 26 13 (vE 0) (asC (kE (.str [123])) (asN)))) (seqS (setS 1 (lstE (asN))) (seqS (whileS (notT (tst (methE call 0 19 4 (vE 0) (asC (kE (.str [115, 105, 103, 110])) (asC (kE (.str [125])) (asN)))))) (B31_1 call)) (seqS (augF augAdd [0] 11 (vE 0) (kE (.int 1))) (retS (op1 tupleV (vE 1))))))
def B32_1 (call : Call) : Mn.St := seqS (exprS (methE call 0 25 16 (vE 0) (asC (kE (.str [119, 111, 114, 100])) (asN)))) (seqS (setS 2 (methE call 0 22 8 (vE 0) asN)) (exprS (meth appendV (vE 1) (asC (tupE (asC (vE 2) (asC (callH call 31 (asC (vE 0) (asN))) (asN)))) (asN)))))
/-- read_words: reader, found, name -/
def B32 (call : Call) : Mn.St := seqS (setS 1 (lstE (asN))) (seqS (whileS (orT (notT (tst (vE 1))) (tst (op2 ltV (op1 (fldV [0] 11) (vE 0)) (op1 lenV (op1 (fldV [0] 15) (vE 0)))))) (B32_1 call)) (retS (op1 tupleV (vE 1))))
def B33_1 (call : Call) : Mn.St := exprS (meth appendV (vE 3) (asC (callH call 28 (asC (vE 1) (asN))) (asN)))
/-- tree_of: text, reader, kinds, deeds -/
def B33 (call : Call) : Mn.St := seqS (setS 1 (newE call 0 16 (asC (vE 0) (asN)))) (seqS (setS 2 (callH call 27 (asC (vE 1) (asN)))) (seqS (setS 3 (lstE (asN))) (seqS (whileS (tst (methE call 0 19 4 (vE 1) (asC (kE (.str [119, 111, 114, 100])) (asC (kE (.str [100, 101, 101, 100])) (asN))))) (B33_1 call)) (retS (tupE (asC (vE 2) (asC (op1 tupleV (vE 3)) (asC (callH call 32 (asC (vE 1) (asN))) (asN)))))))))
/-- refuse: where, word -/
def B34 (call : Call) : Mn.St := badS
/-- Draft.__init__: self -/
def B35 (call : Call) : Mn.St := seqS (fldS [1] 5 (vE 0) (lstE (asN))) (seqS (fldS [1] 1 (vE 0) (lstE (asN))) (seqS (fldS [1] 9 (vE 0) (lstE (asN))) (fldS [1] 7 (vE 0) (kE (.int 0)))))
/-- Draft.deed_names: self, deed -/
def B36 (call : Call) : Mn.St := retS (lcE (itE (op1 (fldV [1] 1) (vE 0))) (tgV 1) (yesT) (op2 ixV (vE 1) (kE (.int 0))) [1])
/-- add_name: found, others, name, most -/
def B37 (call : Call) : Mn.St := seqS (ifS (orT (tst (op2 (inV false) (op2 ixV (vE 2) (kE (.int 0))) (vE 0))) (tst (op2 (inV false) (op2 ixV (vE 2) (kE (.int 0))) (vE 1)))) (exprS (callH call 34 (asC (op2 ixV (vE 2) (kE (.int 1))) (asC (kE (.str [107, 110, 111, 119, 110])) (asN))))) (nxS)) (ifS (tst (op2 eqV (op1 lenV (vE 0)) (vE 3))) (exprS (callH call 34 (asC (op2 ixV (vE 2) (kE (.int 1))) (asC (kE (.str [108, 105, 109, 105, 116])) (asN))))) (nxS))
def B38_1 (call : Call) : Mn.St := seqS (ifS (tst (op2 (inV true) (vE 3) (op1 (fldV [1] 5) (vE 0)))) (exprS (callH call 34 (asC (vE 4) (asC (kE (.str [117, 110, 107, 110, 111, 119, 110])) (asN))))) (nxS)) (seqS (ifS (tst (op2 eqV (op1 lenV (vE 2)) (kE K_TAKEN_MOST))) (exprS (callH call 34 (asC (vE 4) (asC (kE (.str [108, 105, 109, 105, 116])) (asN))))) (nxS)) (exprS (meth appendV (vE 2) (asC (meth indexV (op1 (fldV [1] 5) (vE 0)) (asC (vE 3) (asN))) (asN)))))
/-- pile_of: draft, names, found, word, where -/
def B38 (call : Call) : Mn.St := seqS (setS 2 (lstE (asN))) (seqS (forS (itE (vE 1)) (tgT [tgV 3, tgV 4]) (B38_1 call)) (retS (op1 tupleV (vE 2))))
/-- add_deed: draft, told, name, off, put -/
def B39 (call : Call) : Mn.St := seqS (unpS (tgT [tgV 2, tgV 3, tgV 4]) (vE 1)) (seqS (exprS (callH call 37 (asC (methE call 1 36 0 (vE 0) asN) (asC (lstE (asN)) (asC (vE 2) (asC (kE K_DEEDS_MOST) (asN))))))) (exprS (meth appendV (op1 (fldV [1] 1) (vE 0)) (asC (tupE (asC (op2 ixV (vE 2) (kE (.int 0))) (asC (callH call 38 (asC (vE 0) (asC (vE 3) (asN)))) (asC (callH call 38 (asC (vE 0) (asC (vE 4) (asN)))) (asN))))) (asN)))))
/-- done_of: draft, name -/
def B40 (call : Call) : Mn.St := seqS (ifS (tst (op2 (inV false) (op2 ixV (vE 1) (kE (.int 0))) (methE call 1 36 0 (vE 0) asN))) (retS (tupE (asC (kE (.str [100, 101, 101, 100])) (asC (meth indexV (methE call 1 36 0 (vE 0) asN) (asC (op2 ixV (vE 1) (kE (.int 0))) (asN))) (asN))))) (nxS)) (seqS (ifS (tst (op2 (inV true) (op2 ixV (vE 1) (kE (.int 0))) (op1 (fldV [1] 9) (vE 0)))) (exprS (callH call 34 (asC (op2 ixV (vE 1) (kE (.int 1))) (asC (kE (.str [117, 110, 107, 110, 111, 119, 110])) (asN))))) (nxS)) (retS (tupE (asC (kE (.str [99, 97, 108, 108])) (asC (meth indexV (op1 (fldV [1] 9) (vE 0)) (asC (op2 ixV (vE 1) (kE (.int 0))) (asN))) (asN))))))
/-- place_in: statement -/
def B41 (call : Call) : Mn.St := retS (iteE (tst (op2 eqV (op2 ixV (vE 0) (kE (.int 0))) (kE (.str [100, 111])))) (op2 ixV (op2 ixV (vE 0) (kE (.int 1))) (kE (.int 1))) (op2 ixV (vE 0) (op1 negV (kE (.int 1)))))
/-- statement_of: draft, statement, deep, word, where, number, place, block -/
def B42 (call : Call) : Mn.St := seqS (setS 3 (op2 ixV (vE 1) (kE (.int 0)))) (seqS (setS 4 (callH call 41 (asC (vE 1) (asN)))) (seqS (ifS (orT (tst (op2 eqV (op1 (fldV [1] 7) (vE 0)) (kE K_STATEMENTS_MOST))) (andT (tst (op2 (inV false) (vE 3) (tupE (asC (kE (.str [101, 105, 116, 104, 101, 114])) (asC (kE (.str [108, 111, 111, 112])) (asC (kE (.str [114, 101, 112, 101, 97, 116])) (asN))))))) (tst (op2 eqV (vE 2) (kE K_DEPTH_MOST))))) (exprS (callH call 34 (asC (vE 4) (asC (kE (.str [108, 105, 109, 105, 116])) (asN))))) (nxS)) (seqS (augF augAdd [1] 7 (vE 0) (kE (.int 1))) (seqS (ifS (tst (op2 eqV (vE 3) (kE (.str [100, 111])))) (retS (callH call 40 (asC (vE 0) (asC (op2 ixV (vE 1) (kE (.int 1))) (asN))))) (nxS)) (seqS (ifS (tst (op2 eqV (vE 3) (kE (.str [101, 105, 116, 104, 101, 114])))) (seqS (ifS (tst (op2 gtV (op1 lenV (op2 ixV (vE 1) (kE (.int 1)))) (kE K_BODIES_MOST))) (exprS (callH call 34 (asC (vE 4) (asC (kE (.str [108, 105, 109, 105, 116])) (asN))))) (nxS)) (retS (tupE (asC (vE 3) (asC (op1 tupleV (lcE (itE (op2 ixV (vE 1) (kE (.int 1)))) (tgV 7) (yesT) (callH call 43 (asC (vE 0) (asC (vE 7) (asC (op2 addV (vE 2) (kE (.int 1))) (asN))))) [7])) (asN)))))) (nxS)) (seqS (ifS (tst (op2 eqV (vE 3) (kE (.str [108, 111, 111, 112])))) (retS (tupE (asC (vE 3) (asC (callH call 43 (asC (vE 0) (asC (op2 ixV (vE 1) (kE (.int 1))) (asC (op2 addV (vE 2) (kE (.int 1))) (asN))))) (asN))))) (nxS)) (seqS (ifS (tst (op2 eqV (vE 3) (kE (.str [98, 97, 99, 107])))) (retS (tupE (asC (vE 3) (asN)))) (nxS)) (seqS (unpS (tgT [tgV 5, tgV 6]) (op2 ixV (vE 1) (kE (.int 1)))) (seqS (ifS (tst (op2 gtV (vE 5) (kE K_REPEAT_MOST))) (exprS (callH call 34 (asC (vE 6) (asC (kE (.str [108, 105, 109, 105, 116])) (asN))))) (nxS)) (retS (tupE (asC (vE 3) (asC (vE 5) (asC (callH call 43 (asC (vE 0) (asC (op2 ixV (vE 1) (kE (.int 2))) (asC (op2 addV (vE 2) (kE (.int 1))) (asN))))) (asN)))))))))))))))
/-- body_of: draft, block, deep, statement -/
def B43 (call : Call) : Mn.St := retS (op1 tupleV (lcE (itE (vE 1)) (tgV 3) (yesT) (callH call 42 (asC (vE 0) (asC (vE 3) (asC (vE 2) (asN))))) [3]))
def B44_1 (call : Call) : Mn.St := seqS (exprS (callH call 37 (asC (op1 (fldV [1] 5) (vE 4)) (asC (lstE (asN)) (asC (vE 5) (asC (kE K_KINDS_MOST) (asN))))))) (exprS (meth appendV (op1 (fldV [1] 5) (vE 4)) (asC (op2 ixV (vE 5) (kE (.int 0))) (asN))))
def B44_2 (call : Call) : Mn.St := exprS (callH call 39 (asC (vE 4) (asC (vE 6) (asN))))
def B44_3 (call : Call) : Mn.St := seqS (exprS (callH call 37 (asC (op1 (fldV [1] 9) (vE 4)) (asC (methE call 1 36 0 (vE 4) asN) (asC (vE 5) (asC (kE K_WORDS_MOST) (asN))))))) (exprS (meth appendV (op1 (fldV [1] 9) (vE 4)) (asC (op2 ixV (vE 5) (kE (.int 0))) (asN))))
/-- program_of: tree, kinds, deeds, words, draft, name, deed, block, bodies -/
def B44 (call : Call) : Mn.St := seqS (unpS (tgT [tgV 1, tgV 2, tgV 3]) (vE 0)) (seqS (setS 4 (newE call 1 35 asN)) (seqS (forS (itE (vE 1)) (tgV 5) (B44_1 call)) (seqS (forS (itE (vE 2)) (tgV 6) (B44_2 call)) (seqS (forS (itE (vE 3)) (tgT [tgV 5, tgV 7]) (B44_3 call)) (seqS (setS 8 (lcE (itE (vE 3)) (tgT [tgV 5, tgV 7]) (yesT) (callH call 43 (asC (vE 4) (asC (vE 7) (asC (kE (.int 1)) (asN))))) [5, 7])) (seqS (ifS (tst (op2 (inV true) (kE (.str [109, 97, 105, 110])) (op1 (fldV [1] 9) (vE 4)))) (badS) (nxS)) (retS (tupE (asC (op1 tupleV (op1 (fldV [1] 5) (vE 4))) (asC (op1 tupleV (op1 (fldV [1] 1) (vE 4))) (asC (op1 tupleV (op1 (fldV [1] 9) (vE 4))) (asC (op1 tupleV (vE 8)) (asN)))))))))))))
/-- read_source: text -/
def B45 (call : Call) : Mn.St := retS (callH call 44 (asC (callH call 33 (asC (vE 0) (asN))) (asN)))
def B46_1 (call : Call) : Mn.St := seqS (setS 4 (op2 modV (op1 absV (op1 intV (vE 3))) (op2 shlV (kE (.int 1)) (kE (.int 1480))))) (seqS (setS 2 (op2 modV (op1 intV (op2 addV (op2 addV (op2 addV (op2 mulV (vE 2) (kE (.int 20011))) (op2 mulV (op2 modV (vE 4) (kE (.int 1001983))) (kE (.int 101)))) (op1 intV (op2 ltV (op1 intV (vE 3)) (kE (.int 0))))) (kE (.int 66)))) (kE (.int 2147482853)))) (ifS (tst (op2 geV (vE 4) (op2 powV (kE (.int 10)) (kE (.int 18))))) (setS 1 (op2 addV (lstE (asC (vE 4) (asN))) (vE 1))) (nxS)))
def B46_2 (call : Call) : Mn.St := seqS (setS 2 (op2 modV (op1 intV (op2 addV (op2 addV (op2 mulV (vE 2) (kE (.int 6007))) (op2 mulV (kE (.int 239)) (vE 6))) (kE (.int 113)))) (kE (.int 2147482853)))) (exprS (meth appendV (vE 5) (asC (op2 modV (op1 intV (op2 divV (vE 2) (kE (.int 421)))) (kE (.int 80))) (asN))))
/-- _law_box: script, great, mixed, cell, size, leans, place -/
def B46 (call : Call) : Mn.St := seqS (setS 1 (lstE (asN))) (seqS (setS 2 (kE (.int 71011))) (seqS (forS (itE (slE (vE 0) (noO) (someO (kE (.int 50))))) (tgV 3) (B46_1 call)) (seqS (setS 5 (lstE (asN))) (seqS (forS (itR1 (kE (.int 8))) (tgV 6) (B46_2 call)) (retS (lstE (asC (vE 1) (asC (vE 2) (asC (kE (.int 7)) (asC (vE 5) (asN)))))))))))
/-- _law_pick: box, place, many, size, lean -/
def B47 (call : Call) : Mn.St := seqS (putS (vE 0) (kE (.int 2)) (op2 addV (op2 ixV (vE 0) (kE (.int 2))) (kE (.int 1)))) (seqS (ifS (tst (op2 ixV (vE 0) (kE (.int 0)))) (seqS (setS 3 (op1 intV (meth popV (op2 ixV (vE 0) (kE (.int 0))) (asN)))) (seqS (ifS (tst (op2 geV (vE 3) (vE 2))) (exprS (meth appendV (op2 ixV (vE 0) (kE (.int 0))) (asC (op2 divV (vE 3) (vE 2)) (asN)))) (nxS)) (retS (op2 modV (vE 3) (vE 2))))) (nxS)) (seqS (putS (vE 0) (kE (.int 1)) (op2 modV (op1 intV (op2 addV (op2 addV (op2 mulV (op2 ixV (vE 0) (kE (.int 1))) (kE (.int 22013))) (op2 mulV (op2 ixV (vE 0) (kE (.int 2))) (kE (.int 157)))) (vE 1))) (kE (.int 2147482853)))) (seqS (setS 4 (op2 ixV (op2 ixV (vE 0) (kE (.int 3))) (vE 1))) (seqS (ifS (tst (op2 ltV (vE 4) (kE (.int 4)))) (retS (kE (.int 0))) (nxS)) (seqS (ifS (tst (op2 ltV (vE 4) (kE (.int 8)))) (retS (op2 subV (vE 2) (kE (.int 1)))) (nxS)) (seqS (ifS (tst (op2 ltV (vE 4) (kE (.int 12)))) (retS (op2 modV (op1 intV (op2 addV (op2 mulV (vE 4) (kE (.int 3))) (kE (.int 1)))) (vE 2))) (nxS)) (retS (op2 modV (op1 intV (op2 divV (op2 ixV (vE 0) (kE (.int 1))) (kE (.int 431)))) (vE 2)))))))))
def B48_1 (call : Call) : Mn.St := seqS (setS 5 (op1 tupleV (lcE (itR1 (op2 ixV (tupE (asC (kE (.int 0)) (asC (kE (.int 1)) (asC (kE (.int 1)) (asC (kE (.int 2)) (asC (kE (.int 3)) (asN))))))) (callH call 47 (asC (vE 0) (asC (kE (.int 1)) (asC (kE (.int 5)) (asN))))))) (tgV 7) (yesT) (callH call 47 (asC (vE 0) (asC (kE (.int 0)) (asC (vE 2) (asN))))) [7]))) (seqS (setS 6 (op1 tupleV (lcE (itR1 (op2 ixV (tupE (asC (kE (.int 1)) (asC (kE (.int 0)) (asC (kE (.int 2)) (asC (kE (.int 1)) (asC (kE (.int 3)) (asN))))))) (callH call 47 (asC (vE 0) (asC (kE (.int 3)) (asC (kE (.int 5)) (asN))))))) (tgV 7) (yesT) (callH call 47 (asC (vE 0) (asC (kE (.int 2)) (asC (vE 2) (asN))))) [7]))) (exprS (meth appendV (vE 3) (asC (tupE (asC (op2 ixV (tupE (asC (kE (.str [112])) (asC (kE (.str [116, 50])) (asC (kE (.str [120])) (asC (kE (.str [115, 119, 97, 112, 57])) (asC (kE (.str [113])) (asC (kE (.str [114, 101, 115, 116])) (asC (kE (.str [117])) (asC (kE (.str [118, 48])) (asN)))))))))) (vE 4)) (asC (vE 5) (asC (vE 6) (asN))))) (asN)))))
/-- _law_deeds: box, many, kinds, rows, k, off, on, lap -/
def B48 (call : Call) : Mn.St := seqS (setS 3 (lstE (asN))) (seqS (forS (itR1 (vE 1)) (tgV 4) (B48_1 call)) (retS (op1 tupleV (vE 3))))
/-- _law_program: box, deeds, kinds, names, bodies -/
def B49 (call : Call) : Mn.St := seqS (setS 3 (op2 ixV (tupE (asC (tupE (asC (kE (.str [109, 97, 105, 110])) (asN))) (asC (tupE (asC (kE (.str [102])) (asC (kE (.str [109, 97, 105, 110])) (asN)))) (asN)))) (callH call 47 (asC (vE 0) (asC (kE (.int 4)) (asC (kE (.int 2)) (asN))))))) (seqS (setS 4 (slE (tupE (asC (tupE (asC (tupE (asC (kE (.str [100, 101, 101, 100])) (asC (kE (.int 0)) (asN)))) (asC (tupE (asC (kE (.str [98, 97, 99, 107])) (asN))) (asN)))) (asC (tupE (asC (tupE (asC (kE (.str [108, 111, 111, 112])) (asC (tupE (asC (tupE (asC (kE (.str [100, 101, 101, 100])) (asC (op2 subV (op1 lenV (vE 1)) (kE (.int 1))) (asN)))) (asN))) (asN)))) (asN))) (asN)))) (noO) (someO (op1 lenV (vE 3))))) (retS (tupE (asC (slE (tupE (asC (kE (.str [97])) (asC (kE (.str [98])) (asC (kE (.str [99, 51])) (asN))))) (noO) (someO (vE 2))) (asC (vE 1) (asC (vE 3) (asC (vE 4) (asN))))))))
/-- _law_joined: one, other, on, off, less -/
def B50 (call : Call) : Mn.St := seqS (ifS (orT (tst (op2 isV (vE 0) (kE .non))) (tst (op2 isV (vE 1) (kE .non)))) (retS (kE .non)) (nxS)) (seqS (parS 2 3 (asC (op2 ixV (vE 0) (kE (.int 1))) (asC (op2 ixV (vE 1) (kE (.int 0))) (asN)))) (seqS (setS 4 (op2 min2V (op1 lenV (vE 2)) (op1 lenV (vE 3)))) (seqS (ifS (tst (op2 neV (slE (vE 2) (noO) (someO (vE 4))) (slE (vE 3) (noO) (someO (vE 4))))) (retS (kE .non)) (nxS)) (retS (tupE (asC (op2 addV (op2 ixV (vE 0) (kE (.int 0))) (slE (vE 3) (someO (vE 4)) (noO))) (asC (op2 addV (op2 ixV (vE 1) (kE (.int 1))) (slE (vE 2) (someO (vE 4)) (noO))) (asN))))))))
def B51_1 (call : Call) : Mn.St := setS 2 (callH call 50 (asC (vE 2) (asC (tupE (asC (op2 ixV (op2 ixV (vE 0) (vE 3)) (kE (.int 1))) (asC (op2 ixV (op2 ixV (vE 0) (vE 3)) (kE (.int 2))) (asN)))) (asN))))
/-- _law_row: deeds, row, told, d -/
def B51 (call : Call) : Mn.St := seqS (setS 2 (tupE (asC (tupE (asN)) (asC (tupE (asN)) (asN))))) (seqS (forS (itE (vE 1)) (tgV 3) (B51_1 call)) (retS (vE 2)))
/-- _law_is_for: told, effect, off, on, rest -/
def B52 (call : Call) : Mn.St := seqS (ifS (tst (op2 isV (vE 0) (kE .non))) (retS (kE (.bl false))) (nxS)) (seqS (unpS (tgT [tgV 2, tgV 3]) (vE 0)) (seqS (setS 4 (slE (op2 ixV (vE 1) (kE (.int 0))) (someO (op1 lenV (vE 2))) (noO))) (retS (andE (op2 eqV (slE (op2 ixV (vE 1) (kE (.int 0))) (noO) (someO (op1 lenV (vE 2)))) (vE 2)) (op2 eqV (op2 ixV (vE 1) (kE (.int 1))) (op2 addV (vE 3) (vE 4)))))))
def B53_1 (call : Call) : Mn.St := ifS (tst (callH call 52 (asC (vE 6) (asC (vE 1) (asN))))) (retS (vE 5)) (nxS)
def B53_2 (call : Call) : Mn.St := seqS (setS 9 (callH call 50 (asC (vE 6) (asC (tupE (asC (op2 ixV (op2 ixV (vE 0) (vE 8)) (kE (.int 1))) (asC (op2 ixV (op2 ixV (vE 0) (vE 8)) (kE (.int 2))) (asN)))) (asN))))) (ifS (tst (op2 isntV (vE 9) (kE .non))) (exprS (meth appendV (vE 7) (asC (tupE (asC (op2 addV (vE 5) (tupE (asC (vE 8) (asN)))) (asC (vE 9) (asN)))) (asN)))) (nxS))
def B53_3 (call : Call) : Mn.St := forS (itR1 (op1 lenV (vE 0))) (tgV 8) (B53_2 call)
def B53_4 (call : Call) : Mn.St := seqS (forS (itE (vE 3)) (tgT [tgV 5, tgV 6]) (B53_1 call)) (seqS (setS 7 (lstE (asN))) (seqS (forS (itE (iteE (tst (op2 ltV (vE 4) (vE 2))) (vE 3) (lstE (asN)))) (tgT [tgV 5, tgV 6]) (B53_3 call)) (setS 3 (vE 7))))
/-- _law_shortest: deeds, effect, most, rows, lap, row, told, longer, d, more -/
def B53 (call : Call) : Mn.St := seqS (setS 3 (lstE (asC (tupE (asC (tupE (asN)) (asC (tupE (asC (tupE (asN)) (asC (tupE (asN)) (asN)))) (asN)))) (asN)))) (seqS (forS (itR1 (op2 addV (vE 2) (kE (.int 1)))) (tgV 4) (B53_4 call)) (retS (kE .non)))
def B54_1 (call : Call) : Mn.St := seqS (unpS (tgT [tgV 3, tgV 4]) (meth popV (vE 2) (asN))) (ifS (tst (op1 (isiV .tup) (vE 4))) (seqS (ifS (orT (notT (tst (op1 (isiV .tup) (vE 3)))) (tst (op2 neV (op1 lenV (vE 3)) (op1 lenV (vE 4))))) (retS (kE (.bl false))) (nxS)) (exprS (meth extendV (vE 2) (asC (lcE (itR1 (op1 lenV (vE 4))) (tgV 5) (yesT) (tupE (asC (op2 ixV (vE 3) (vE 5)) (asC (op2 ixV (vE 4) (vE 5)) (asN)))) [5]) (asN))))) (ifS (tst (op2 isV (vE 4) (kE .non))) (ifS (tst (op2 isntV (vE 3) (kE .non))) (retS (kE (.bl false))) (nxS)) (ifS (orT (notT (tst (op1 (isiV .int) (vE 3)))) (orT (tst (op1 (isiV .bool) (vE 3))) (tst (op2 neV (vE 3) (vE 4))))) (retS (kE (.bl false))) (nxS))))
/-- _law_same: told, due, todo, one, other, at -/
def B54 (call : Call) : Mn.St := seqS (setS 2 (lstE (asC (tupE (asC (vE 0) (asC (vE 1) (asN)))) (asN)))) (seqS (whileS (tst (vE 2)) (B54_1 call)) (retS (kE (.bl true))))
/-- _law_bool: told, due -/
def B55 (call : Call) : Mn.St := retS (andE (op1 (isiV .bool) (vE 0)) (op2 eqV (vE 0) (vE 1)))
def B56_1 (call : Call) : Mn.St := seqS (setS 6 (lcE (itR1 (op1 lenV (vE 1))) (tgV 7) (tst (op2 isntV (callH call 50 (asC (vE 4) (asC (tupE (asC (op2 ixV (op2 ixV (vE 1) (vE 7)) (kE (.int 1))) (asC (op2 ixV (op2 ixV (vE 1) (vE 7)) (kE (.int 2))) (asN)))) (asN)))) (kE .non))) (vE 7) [7])) (seqS (ifS (orT (tst (op2 eqV (callH call 47 (asC (vE 0) (asC (kE (.int 6)) (asC (kE (.int 9)) (asN))))) (kE (.int 4)))) (notT (tst (vE 6)))) (setS 6 (op1 lrngV (op1 lenV (vE 1)))) (nxS)) (seqS (setS 3 (op2 addV (vE 3) (tupE (asC (op2 ixV (vE 6) (callH call 47 (asC (vE 0) (asC (kE (.int 7)) (asC (op1 lenV (vE 6)) (asN)))))) (asN))))) (seqS (setS 4 (callH call 50 (asC (vE 4) (asC (tupE (asC (op2 ixV (op2 ixV (vE 1) (op2 ixV (vE 3) (op1 negV (kE (.int 1))))) (kE (.int 1))) (asC (op2 ixV (op2 ixV (vE 1) (op2 ixV (vE 3) (op1 negV (kE (.int 1))))) (kE (.int 2))) (asN)))) (asN))))) (ifS (tst (op2 isV (vE 4) (kE .non))) (brkS) (nxS)))))
/-- _law_drawn_row: box, deeds, most, row, told, lap, some, d -/
def B56 (call : Call) : Mn.St := seqS (setS 3 (tupE (asN))) (seqS (setS 4 (tupE (asC (tupE (asN)) (asC (tupE (asN)) (asN))))) (seqS (forS (itR1 (callH call 47 (asC (vE 0) (asC (kE (.int 5)) (asC (op2 addV (vE 2) (kE (.int 1))) (asN)))))) (tgV 5) (B56_1 call)) (retS (vE 3))))
/-- _law_effects: box, deeds, row, kinds, told, more, base, rows, lap -/
def B57 (call : Call) : Mn.St := seqS (setS 4 (callH call 51 (asC (vE 1) (asC (vE 2) (asN))))) (seqS (setS 5 (op1 tupleV (lcE (itR1 (callH call 47 (asC (vE 0) (asC (kE (.int 1)) (asC (kE (.int 3)) (asN)))))) (tgV 8) (yesT) (callH call 47 (asC (vE 0) (asC (kE (.int 0)) (asC (vE 3) (asN))))) [8]))) (seqS (setS 6 (iteE (tst (op2 isntV (vE 4) (kE .non))) (vE 4) (tupE (asC (tupE (asC (callH call 47 (asC (vE 0) (asC (kE (.int 0)) (asC (vE 3) (asN))))) (asN))) (asC (tupE (asC (callH call 47 (asC (vE 0) (asC (kE (.int 2)) (asC (vE 3) (asN))))) (asN))) (asN)))))) (seqS (setS 7 (lstE (asC (vE 6) (asC (tupE (asC (op2 addV (op2 ixV (vE 6) (kE (.int 0))) (vE 5)) (asC (op2 addV (op2 ixV (vE 6) (kE (.int 1))) (vE 5)) (asN)))) (asC (tupE (asC (op2 addV (op2 ixV (vE 6) (kE (.int 0))) (tupE (asC (kE (.int 0)) (asN)))) (asC (op2 ixV (vE 6) (kE (.int 1))) (asN)))) (asC (tupE (asC (op2 ixV (vE 6) (kE (.int 0))) (asC (op2 addV (op2 ixV (vE 6) (kE (.int 1))) (tupE (asC (op2 subV (vE 3) (kE (.int 1))) (asN)))) (asN)))) (asC (tupE (asC (op2 ixV (vE 6) (kE (.int 1))) (asC (op2 ixV (vE 6) (kE (.int 0))) (asN)))) (asC (tupE (asC (slE (op2 ixV (vE 6) (kE (.int 0))) (someO (kE (.int 1))) (noO)) (asC (op2 ixV (vE 6) (kE (.int 1))) (asN)))) (asC (tupE (asC (op2 addV (op2 ixV (vE 6) (kE (.int 0))) (vE 5)) (asC (op2 addV (vE 5) (op2 ixV (vE 6) (kE (.int 1)))) (asN)))) (asC (tupE (asC (op2 addV (tupE (asC (kE (.int 0)) (asN))) (op2 ixV (vE 6) (kE (.int 0)))) (asC (op2 addV (tupE (asC (kE (.int 0)) (asN))) (op2 ixV (vE 6) (kE (.int 1)))) (asN)))) (asN))))))))))) (retS (lstE (asC (op2 ixV (vE 7) (kE (.int 0))) (asC (op2 ixV (vE 7) (kE (.int 1))) (asC (op2 ixV (vE 7) (op2 addV (kE (.int 2)) (callH call 47 (asC (vE 0) (asC (kE (.int 3)) (asC (kE (.int 6)) (asN))))))) (asN)))))))))
def B58_1 (call : Call) : Mn.St := ifS (notT (tst (callH call 54 (asC (callH call 9 (asC (vE 1) (asC (vE 9) (asC (vE 3) (asN))))) (asC (callH call 53 (asC (vE 5) (asC (vE 9) (asC (vE 3) (asN))))) (asN)))))) (retS (kE (.bl false))) (nxS)
def B58_2 (call : Call) : Mn.St := ifS (notT (tst (callH call 55 (asC (callH call 7 (asC (vE 1) (asC (vE 14) (asC (vE 9) (asN))))) (asC (callH call 52 (asC (callH call 51 (asC (vE 5) (asC (vE 14) (asN)))) (asC (vE 9) (asN)))) (asN)))))) (retS (kE (.bl false))) (nxS)
def B58_3 (call : Call) : Mn.St := forS (itE (vE 8)) (tgV 9) (B58_2 call)
/-- _law_asked: box, program, kinds, most, long, deeds, row, due, effects, effect, other, at, d, rows, one, first, second, more, longer -/
def B58 (call : Call) : Mn.St := seqS (setS 5 (op2 ixV (vE 1) (kE (.int 1)))) (seqS (setS 6 (callH call 56 (asC (vE 0) (asC (vE 5) (asC (vE 4) (asN)))))) (seqS (setS 7 (callH call 51 (asC (vE 5) (asC (vE 6) (asN))))) (seqS (ifS (orT (notT (tst (callH call 54 (asC (callH call 6 (asC (vE 1) (asC (vE 6) (asN)))) (asC (vE 7) (asN)))))) (notT (tst (callH call 54 (asC (callH call 2 (asC (op1 tupleV (lcE (itE (vE 6)) (tgV 12) (yesT) (slE (op2 ixV (vE 5) (vE 12)) (someO (kE (.int 1))) (noO)) [12])) (asN))) (asC (vE 7) (asN))))))) (retS (kE (.bl false))) (nxS)) (seqS (setS 8 (callH call 57 (asC (vE 0) (asC (vE 5) (asC (vE 6) (asC (vE 2) (asN))))))) (seqS (forS (itE (vE 8)) (tgV 9) (B58_1 call)) (seqS (setS 10 (callH call 56 (asC (vE 0) (asC (vE 5) (asC (vE 4) (asN)))))) (seqS (setS 11 (callH call 47 (asC (vE 0) (asC (kE (.int 4)) (asC (op2 addV (op1 lenV (vE 6)) (kE (.int 1))) (asN)))))) (seqS (setS 12 (callH call 47 (asC (vE 0) (asC (kE (.int 6)) (asC (op1 lenV (vE 5)) (asN)))))) (seqS (setS 13 (lstE (asC (vE 6) (asC (slE (vE 6) (noO) (someO (vE 11))) (asC (op2 addV (vE 6) (tupE (asC (vE 12) (asN)))) (asC (op2 addV (op2 addV (slE (vE 6) (noO) (someO (vE 11))) (tupE (asC (vE 12) (asN)))) (slE (vE 6) (someO (vE 11)) (noO))) (asC (op2 addV (op2 addV (slE (vE 6) (noO) (someO (vE 11))) (tupE (asC (vE 12) (asN)))) (slE (vE 6) (someO (op2 addV (vE 11) (kE (.int 1)))) (noO))) (asC (vE 10) (asC (op1 revT (vE 6)) (asC (tupE (asN)) (asN))))))))))) (seqS (forS (itE (vE 13)) (tgV 14) (B58_3 call)) (seqS (parS 15 16 (asC (callH call 51 (asC (vE 5) (asC (slE (vE 6) (noO) (someO (vE 11))) (asN)))) (asC (callH call 51 (asC (vE 5) (asC (slE (vE 6) (someO (vE 11)) (noO)) (asN)))) (asN)))) (seqS (ifS (andT (tst (op2 isntV (vE 15) (kE .non))) (andT (tst (op2 isntV (vE 16) (kE .non))) (notT (tst (callH call 54 (asC (callH call 1 (asC (vE 15) (asC (vE 16) (asN)))) (asC (vE 7) (asN)))))))) (retS (kE (.bl false))) (nxS)) (seqS (ifS (tst (op2 isV (vE 7) (kE .non))) (retS (kE (.bl true))) (nxS)) (seqS (setS 17 (tupE (asC (op2 subV (vE 2) (kE (.int 1))) (asC (kE (.int 0)) (asN))))) (seqS (setS 18 (tupE (asC (op2 addV (op2 ixV (vE 7) (kE (.int 0))) (vE 17)) (asC (op2 addV (op2 ixV (vE 7) (kE (.int 1))) (vE 17)) (asN))))) (retS (andE (callH call 54 (asC (callH call 3 (asC (vE 7) (asC (vE 17) (asN)))) (asC (vE 18) (asN)))) (callH call 55 (asC (callH call 5 (asC (vE 7) (asC (vE 18) (asN)))) (asC (kE (.bl true)) (asN)))))))))))))))))))))
def B59_1 (call : Call) : Mn.St := ifS (orT (notT (tst (callH call 55 (asC (callH call 7 (asC (vE 1) (asC (vE 4) (asC (vE 5) (asN))))) (asC (vE 6) (asN)))))) (notT (tst (callH call 55 (asC (callHK call 7 [1, 2, 0] (asC (vE 5) (asC (vE 1) (asC (vE 4) (asN))))) (asC (vE 6) (asN))))))) (retS (kE (.bl false))) (nxS)
/-- _law_by_hand: calc, program, told, looks, row, effect, due, twins -/
def B59 (call : Call) : Mn.St := seqS (setS 0 (kE (.str [107, 105, 110, 100, 115, 32, 105, 110, 116, 44, 32, 116, 101, 120, 116, 59, 10, 100, 101, 101, 100, 32, 111, 110, 101, 58, 32, 116, 111, 32, 105, 110, 116, 59, 10, 100, 101, 101, 100, 32, 97, 100, 100, 58, 32, 105, 110, 116, 32, 105, 110, 116, 32, 116, 111, 32, 105, 110, 116, 59, 10, 100, 101, 101, 100, 32, 115, 104, 111, 119, 58, 32, 105, 110, 116, 32, 116, 111, 32, 116, 101, 120, 116, 59, 10]))) (seqS (setS 0 (op2 addV (vE 0) (kE (.str [119, 111, 114, 100, 32, 109, 97, 105, 110, 32, 123, 10, 32, 32, 101, 105, 116, 104, 101, 114, 32, 123, 10, 32, 32, 32, 32, 111, 110, 101, 59, 10, 32, 32, 32, 32, 97, 100, 100, 59, 10, 32, 32, 125, 32, 111, 114, 32, 123, 10, 32, 32, 32, 32, 115, 117, 109, 59, 10, 32, 32, 32, 32, 111, 110, 101, 59, 10, 32, 32, 125, 10, 32, 32, 115, 104, 111, 119, 59, 10, 125, 10, 119, 111, 114, 100, 32, 115, 117, 109, 32, 123, 10, 32, 32, 97, 100, 100, 59, 10, 32, 32, 108, 111, 111, 112, 32, 123, 10, 32, 32, 32, 32, 111, 110, 101, 59, 10, 32, 32, 32, 32, 97, 100, 100, 59, 10, 32, 32, 125, 10, 125])))) (seqS (setS 1 (callH call 45 (asC (vE 0) (asN)))) (seqS (setS 2 (tupE (asC (callH call 6 (asC (vE 1) (asC (tupE (asC (kE (.int 0)) (asC (kE (.int 1)) (asN)))) (asN)))) (asC (callH call 9 (asC (vE 1) (asC (tupE (asC (tupE (asC (kE (.int 0)) (asN))) (asC (tupE (asC (kE (.int 1)) (asC (kE (.int 0)) (asN)))) (asN)))) (asC (kE (.int 3)) (asN))))) (asC (callH call 6 (asC (vE 1) (asC (tupE (asN)) (asN)))) (asC (callH call 6 (asC (vE 1) (asC (tupE (asC (kE (.int 2)) (asC (kE (.int 1)) (asN)))) (asN)))) (asC (callH call 9 (asC (vE 1) (asC (tupE (asC (tupE (asN)) (asC (tupE (asN)) (asN)))) (asC (kE (.int 0)) (asN))))) (asC (callHK call 9 [1, 0, 2] (asC (tupE (asC (tupE (asC (kE (.int 1)) (asC (kE (.int 0)) (asN)))) (asC (tupE (asC (kE (.int 1)) (asC (kE (.int 0)) (asN)))) (asN)))) (asC (vE 1) (asC (kE (.int 2)) (asN))))) (asN))))))))) (seqS (ifS (notT (tst (callH call 54 (asC (vE 2) (asC (tupE (asC (tupE (asC (tupE (asC (kE (.int 0)) (asN))) (asC (tupE (asC (kE (.int 0)) (asN))) (asN)))) (asC (tupE (asC (kE (.int 0)) (asC (kE (.int 2)) (asN)))) (asC (tupE (asC (tupE (asN)) (asC (tupE (asN)) (asN)))) (asC (kE .non) (asC (tupE (asN)) (asC (tupE (asN)) (asN)))))))) (asN)))))) (retS (kE (.bl false))) (nxS)) (seqS (setS 2 (tupE (asC (callH call 9 (asC (vE 1) (asC (tupE (asC (tupE (asC (kE (.int 0)) (asN))) (asC (tupE (asC (kE (.int 1)) (asC (kE (.int 0)) (asN)))) (asN)))) (asC (kE (.int 1)) (asN))))) (asC (callH call 9 (asC (vE 1) (asC (tupE (asC (tupE (asN)) (asC (tupE (asC (kE (.int 1)) (asN))) (asN)))) (asC (kE (.int 2)) (asN))))) (asC (callH call 9 (asC (vE 1) (asC (tupE (asC (tupE (asN)) (asC (tupE (asC (kE (.int 0)) (asC (kE (.int 0)) (asC (kE (.int 0)) (asN))))) (asN)))) (asC (kE (.int 2)) (asN))))) (asC (callHK call 9 [2, 1, 0] (asC (kE (.int 6)) (asC (tupE (asC (tupE (asC (kE (.int 0)) (asC (kE (.int 0)) (asC (kE (.int 0)) (asN))))) (asC (tupE (asC (kE (.int 1)) (asN))) (asN)))) (asC (vE 1) (asN))))) (asC (callH call 9 (asC (vE 1) (asC (tupE (asC (tupE (asC (kE (.int 1)) (asN))) (asC (tupE (asC (kE (.int 0)) (asN))) (asN)))) (asC (kE (.int 6)) (asN))))) (asC (callHK call 6 [1, 0] (asC (tupE (asC (kE (.int 1)) (asC (kE (.int 1)) (asC (kE (.int 2)) (asN))))) (asC (vE 1) (asN)))) (asN))))))))) (seqS (ifS (notT (tst (callH call 54 (asC (vE 2) (asC (tupE (asC (kE .non) (asC (tupE (asC (kE (.int 0)) (asC (kE (.int 2)) (asN)))) (asC (kE .non) (asC (tupE (asC (kE (.int 1)) (asC (kE (.int 1)) (asC (kE (.int 2)) (asN))))) (asC (kE .non) (asC (tupE (asC (tupE (asC (kE (.int 0)) (asC (kE (.int 0)) (asC (kE (.int 0)) (asN))))) (asC (tupE (asC (kE (.int 1)) (asN))) (asN)))) (asN)))))))) (asN)))))) (retS (kE (.bl false))) (nxS)) (seqS (setS 3 (tupE (asC (tupE (asC (tupE (asC (kE (.int 0)) (asC (kE (.int 1)) (asN)))) (asC (tupE (asC (tupE (asC (kE (.int 0)) (asC (kE (.int 1)) (asN)))) (asC (tupE (asC (kE (.int 0)) (asC (kE (.int 1)) (asN)))) (asN)))) (asC (kE (.bl true)) (asN))))) (asC (tupE (asC (tupE (asC (kE (.int 0)) (asC (kE (.int 1)) (asN)))) (asC (tupE (asC (tupE (asC (kE (.int 0)) (asN))) (asC (tupE (asC (kE (.int 0)) (asN))) (asN)))) (asC (kE (.bl true)) (asN))))) (asC (tupE (asC (tupE (asC (kE (.int 0)) (asC (kE (.int 1)) (asN)))) (asC (tupE (asC (tupE (asN)) (asC (tupE (asN)) (asN)))) (asC (kE (.bl false)) (asN))))) (asC (tupE (asC (tupE (asN)) (asC (tupE (asC (tupE (asC (kE (.int 1)) (asN))) (asC (tupE (asC (kE (.int 1)) (asN))) (asN)))) (asC (kE (.bl true)) (asN))))) (asC (tupE (asC (tupE (asN)) (asC (tupE (asC (tupE (asC (kE (.int 1)) (asN))) (asC (tupE (asC (kE (.int 0)) (asN))) (asN)))) (asC (kE (.bl false)) (asN))))) (asC (tupE (asC (tupE (asC (kE (.int 2)) (asC (kE (.int 1)) (asN)))) (asC (tupE (asC (tupE (asC (kE (.int 0)) (asC (kE (.int 0)) (asN)))) (asC (tupE (asC (kE (.int 0)) (asN))) (asN)))) (asC (kE (.bl false)) (asN))))) (asC (tupE (asC (tupE (asC (kE (.int 0)) (asC (kE (.int 2)) (asN)))) (asC (tupE (asC (tupE (asC (kE (.int 0)) (asN))) (asC (tupE (asC (kE (.int 1)) (asC (kE (.int 0)) (asN)))) (asN)))) (asC (kE (.bl true)) (asN))))) (asC (tupE (asC (tupE (asC (kE (.int 0)) (asC (kE (.int 2)) (asN)))) (asC (tupE (asC (tupE (asC (kE (.int 0)) (asN))) (asC (tupE (asC (kE (.int 1)) (asN))) (asN)))) (asC (kE (.bl false)) (asN))))) (asN))))))))))) (seqS (forS (itE (vE 3)) (tgT [tgV 4, tgV 5, tgV 6]) (B59_1 call)) (seqS (setS 7 (tupE (asC (tupE (asC (kE (.str [107])) (asN))) (asC (tupE (asC (tupE (asC (kE (.str [110])) (asC (tupE (asC (kE (.int 0)) (asN))) (asC (tupE (asC (kE (.int 0)) (asN))) (asN))))) (asC (tupE (asC (kE (.str [117, 112])) (asC (tupE (asN)) (asC (tupE (asC (kE (.int 0)) (asN))) (asN))))) (asC (tupE (asC (kE (.str [117, 112, 50])) (asC (tupE (asN)) (asC (tupE (asC (kE (.int 0)) (asN))) (asN))))) (asC (tupE (asC (kE (.str [100, 111, 119, 110])) (asC (tupE (asC (kE (.int 0)) (asN))) (asC (tupE (asN)) (asN))))) (asN)))))) (asC (tupE (asC (kE (.str [109, 97, 105, 110])) (asN))) (asC (tupE (asC (tupE (asN)) (asN))) (asN))))))) (seqS (setS 2 (tupE (asC (callH call 9 (asC (vE 7) (asC (tupE (asC (tupE (asN)) (asC (tupE (asC (kE (.int 0)) (asN))) (asN)))) (asC (kE (.int 3)) (asN))))) (asC (callH call 9 (asC (vE 7) (asC (tupE (asC (tupE (asC (kE (.int 0)) (asN))) (asC (tupE (asC (kE (.int 0)) (asN))) (asN)))) (asC (kE (.int 3)) (asN))))) (asC (callH call 9 (asC (vE 7) (asC (tupE (asC (tupE (asC (kE (.int 0)) (asC (kE (.int 0)) (asN)))) (asC (tupE (asN)) (asN)))) (asC (kE (.int 3)) (asN))))) (asC (callH call 6 (asC (vE 7) (asC (tupE (asC (kE (.int 0)) (asN))) (asN)))) (asC (callH call 6 (asC (vE 7) (asC (tupE (asC (kE (.int 3)) (asC (kE (.int 2)) (asN)))) (asN)))) (asN)))))))) (retS (callH call 54 (asC (vE 2) (asC (tupE (asC (tupE (asC (kE (.int 1)) (asN))) (asC (tupE (asN)) (asC (tupE (asC (kE (.int 3)) (asC (kE (.int 3)) (asN)))) (asC (tupE (asC (tupE (asC (kE (.int 0)) (asN))) (asC (tupE (asC (kE (.int 0)) (asN))) (asN)))) (asC (tupE (asC (tupE (asC (kE (.int 0)) (asN))) (asC (tupE (asC (kE (.int 0)) (asN))) (asN)))) (asN))))))) (asN)))))))))))))))
def B60_1 (call : Call) : Mn.St := seqS (setS 4 (op2 addV (kE (.int 1)) (callH call 47 (asC (vE 1) (asC (kE (.int 0)) (asC (kE (.int 3)) (asN))))))) (seqS (setS 5 (callH call 48 (asC (vE 1) (asC (op2 addV (kE (.int 2)) (callH call 47 (asC (vE 1) (asC (kE (.int 4)) (asC (kE (.int 4)) (asN)))))) (asC (vE 4) (asN)))))) (ifS (notT (tst (callH call 58 (asC (vE 1) (asC (callH call 49 (asC (vE 1) (asC (vE 5) (asC (vE 4) (asN))))) (asC (vE 4) (asC (op2 ixV (tupE (asC (kE (.int 1)) (asC (kE (.int 2)) (asC (kE (.int 3)) (asC (callH call 47 (asC (vE 1) (asC (kE (.int 6)) (asC (kE (.int 4)) (asN))))) (asN)))))) (vE 3)) (asC (kE (.int 6)) (asN))))))))) (retS (kE (.bl false))) (nxS)))
/-- law: script, box, wide, lap, kinds, deeds -/
def B60 (call : Call) : Mn.St := seqS (setS 1 (callE call 46 (asC (vE 0) (asN)))) (seqS (setS 2 (op2 eqV (callH call 47 (asC (vE 1) (asC (kE (.int 5)) (asC (kE (.int 7)) (asN))))) (kE (.int 2)))) (seqS (ifS (notT (tst (callH call 59 asN))) (retS (kE (.bl false))) (nxS)) (seqS (forS (itR1 (kE (.int 4))) (tgV 3) (B60_1 call)) (seqS (ifS (notT (tst (vE 2))) (retS (kE (.bl true))) (nxS)) (seqS (setS 4 (op2 addV (kE (.int 1)) (callH call 47 (asC (vE 1) (asC (kE (.int 0)) (asC (kE (.int 3)) (asN))))))) (seqS (ifS (notT (tst (callH call 58 (asC (vE 1) (asC (callH call 49 (asC (vE 1) (asC (callH call 48 (asC (vE 1) (asC (kE (.int 8)) (asC (vE 4) (asN))))) (asC (vE 4) (asN))))) (asC (vE 4) (asC (kE (.int 4)) (asC (kE (.int 4)) (asN))))))))) (retS (kE (.bl false))) (nxS)) (retS (callH call 58 (asC (vE 1) (asC (callH call 49 (asC (vE 1) (asC (callH call 48 (asC (vE 1) (asC (kE (.int 2)) (asC (vE 4) (asN))))) (asC (vE 4) (asN))))) (asC (vE 4) (asC (kE (.int 6)) (asC (kE (.int 30)) (asN))))))))))))))
def fns : List Fn := [⟨2, 2, B0⟩, ⟨2, 6, B1⟩, ⟨1, 3, B2⟩, ⟨2, 2, B3⟩, ⟨2, 4, B4⟩, ⟨2, 2, B5⟩, ⟨2, 4, B6⟩, ⟨3, 4, B7⟩, ⟨2, 8, B8⟩, ⟨3, 7, B9⟩, ⟨1, 1, B10⟩, ⟨1, 1, B11⟩, ⟨3, 3, B12⟩, ⟨3, 5, B13⟩, ⟨2, 5, B14⟩, ⟨1, 4, B15⟩, ⟨2, 2, B16⟩, ⟨2, 4, B17⟩, ⟨1, 1, B18⟩, ⟨3, 3, B19⟩, ⟨1, 1, B20⟩, ⟨1, 2, B21⟩, ⟨1, 1, B22⟩, ⟨1, 2, B23⟩, ⟨1, 3, B24⟩, ⟨2, 2, B25⟩, ⟨2, 2, B26⟩, ⟨1, 2, B27⟩, ⟨1, 4, B28⟩, ⟨1, 3, B29⟩, ⟨1, 4, B30⟩, ⟨1, 2, B31⟩, ⟨1, 3, B32⟩, ⟨1, 4, B33⟩, ⟨2, 2, B34⟩, ⟨1, 1, B35⟩, ⟨1, 2, B36⟩, ⟨4, 4, B37⟩, ⟨2, 5, B38⟩, ⟨2, 5, B39⟩, ⟨2, 2, B40⟩, ⟨1, 1, B41⟩, ⟨3, 8, B42⟩, ⟨3, 4, B43⟩, ⟨1, 9, B44⟩, ⟨1, 1, B45⟩, ⟨1, 7, B46⟩, ⟨3, 5, B47⟩, ⟨3, 8, B48⟩, ⟨3, 5, B49⟩, ⟨2, 5, B50⟩, ⟨2, 4, B51⟩, ⟨2, 5, B52⟩, ⟨3, 10, B53⟩, ⟨2, 6, B54⟩, ⟨2, 2, B55⟩, ⟨3, 8, B56⟩, ⟨4, 9, B57⟩, ⟨5, 19, B58⟩, ⟨0, 8, B59⟩, ⟨1, 6, B60⟩]

end HeadT
set_option linter.all false
set_option maxRecDepth 100000
set_option maxHeartbeats 1000000
namespace HeadT
open Mn
/-! effects: plain lists -/
abbrev Eff := List Int × List Int
def jn (a b : Eff) : Option Eff := if a.2.take (min a.2.length b.1.length) = b.1.take (min a.2.length b.1.length) then some (a.1 ++ b.1.drop (min a.2.length b.1.length), b.2 ++ a.2.drop (min a.2.length b.1.length)) else none
def J (a b r : Eff) : Prop := (∃ w, b.1 = a.2 ++ w ∧ r = (a.1 ++ w, b.2)) ∨ ∃ w, a.2 = b.1 ++ w ∧ r = (a.1, b.2 ++ w)
theorem jn_some {a b r : Eff} : jn a b = some r ↔ J a b r := by
  unfold jn
  by_cases hl : a.2.length ≤ b.1.length
  · rw [Nat.min_eq_left hl, List.take_length, List.drop_length, List.append_nil]
    constructor
    · intro h
      split at h <;> cases h
      rename_i q
      exact .inl ⟨b.1.drop a.2.length, by rw [← List.take_append_drop a.2.length b.1, ← q]; simp, rfl⟩
    · rintro (⟨w, h1, rfl⟩ | ⟨w, h1, rfl⟩)
      · rw [h1, List.take_left, if_pos rfl, List.drop_left]
      · have hw : w = [] := by
          have := congrArg List.length h1
          rw [List.length_append] at this
          exact List.length_eq_zero_iff.mp (by omega)
        subst hw
        rw [List.append_nil] at h1
        rw [h1, List.take_length, if_pos rfl, List.drop_length, List.append_nil, List.append_nil]
  · have hl : b.1.length ≤ a.2.length := by omega
    rw [Nat.min_eq_right hl, List.take_length, List.drop_length, List.append_nil]
    constructor
    · intro h
      split at h <;> cases h
      rename_i q
      exact .inr ⟨a.2.drop b.1.length, by rw [← List.take_append_drop b.1.length a.2, q]; simp, rfl⟩
    · rintro (⟨w, h1, rfl⟩ | ⟨w, h1, rfl⟩)
      · have := congrArg List.length h1
        rw [List.length_append] at this
        exfalso
        rename_i h2
        omega
      · rw [h1, List.take_left, if_pos rfl, List.drop_left]
theorem jn_none {a b : Eff} : jn a b = none ↔ ∀ r, ¬ J a b r := by
  constructor
  · intro h r hr
    rw [jn_some.mpr hr] at h; cases h
  · intro h
    cases e : jn a b with
    | none => rfl
    | some r => exact absurd (jn_some.mp e) (h r)
theorem app_cmp {α : Type} : ∀ {a b c d : List α}, a ++ b = c ++ d → (∃ w, a = c ++ w) ∨ ∃ w, c = a ++ w
  | [], _, c, _, _ => .inr ⟨c, rfl⟩
  | a :: as, _, [], _, _ => .inl ⟨a :: as, rfl⟩
  | a :: as, b, c :: cs, d, h => by
    rw [List.cons_append, List.cons_append] at h
    injection h with h1 h2
    rcases app_cmp h2 with ⟨w, e⟩ | ⟨w, e⟩
    · exact .inl ⟨w, by rw [h1, e]; rfl⟩
    · exact .inr ⟨w, by rw [h1, e]; rfl⟩
theorem jn_assoc {a x c y : Eff} (h : jn x c = some y) : (jn a x).bind (fun z => jn z c) = jn a y := by
  obtain ⟨a1, a2⟩ := a
  obtain ⟨x1, x2⟩ := x
  obtain ⟨c1, c2⟩ := c
  have key : ∀ r, (jn (a1, a2) (x1, x2)).bind (fun z => jn z (c1, c2)) = some r ↔ jn (a1, a2) y = some r := by
    intro r
    rw [Option.bind_eq_some_iff]
    rcases jn_some.mp h with ⟨w, h1, rfl⟩ | ⟨w, h1, rfl⟩
    · simp only at h1
      subst h1
      constructor
      · rintro ⟨z, hz, hr⟩
        rcases jn_some.mp hz with ⟨u, g1, rfl⟩ | ⟨u, g1, rfl⟩
        · simp only at g1
          subst g1
          have : r = (a1 ++ u ++ w, c2) := by
            have e : jn (a1 ++ u, x2) (x2 ++ w, c2) = some (a1 ++ u ++ w, c2) := jn_some.mpr (.inl ⟨w, rfl, rfl⟩)
            rw [e] at hr; injection hr with hr; exact hr.symm
          subst this
          exact jn_some.mpr (.inl ⟨u ++ w, by simp, by simp⟩)
        · simp only at g1
          subst g1
          rcases jn_some.mp hr with ⟨v, k1, rfl⟩ | ⟨v, k1, rfl⟩
          · simp only [List.append_assoc] at k1
            have k1 := List.append_cancel_left k1
            subst k1
            exact jn_some.mpr (.inl ⟨v, by simp, rfl⟩)
          · simp only [List.append_assoc] at k1
            have k1 := List.append_cancel_left k1
            subst k1
            exact jn_some.mpr (.inr ⟨v, by simp, rfl⟩)
      · intro hr
        rcases jn_some.mp hr with ⟨v, k1, rfl⟩ | ⟨v, k1, rfl⟩
        · simp only at k1
          rcases app_cmp k1 with ⟨u, g⟩ | ⟨u, g⟩
          · subst g
            rw [List.append_assoc] at k1
            have k1 := List.append_cancel_left k1
            subst k1
            exact ⟨(a1 ++ u, x2), jn_some.mpr (.inl ⟨u, rfl, rfl⟩), jn_some.mpr (.inl ⟨w, rfl, by simp⟩)⟩
          · subst g
            rw [List.append_assoc] at k1
            have k1 := List.append_cancel_left k1
            subst k1
            exact ⟨(a1, x2 ++ u), jn_some.mpr (.inr ⟨u, rfl, rfl⟩), jn_some.mpr (.inl ⟨v, by simp, rfl⟩)⟩
        · simp only at k1
          subst k1
          exact ⟨(a1, x2 ++ (w ++ v)), jn_some.mpr (.inr ⟨w ++ v, by simp, rfl⟩), jn_some.mpr (.inr ⟨v, by simp, rfl⟩)⟩
    · simp only at h1
      subst h1
      constructor
      · rintro ⟨z, hz, hr⟩
        rcases jn_some.mp hz with ⟨u, g1, rfl⟩ | ⟨u, g1, rfl⟩
        · simp only at g1
          subst g1
          have : r = (a1 ++ u, c2 ++ w) := by
            have e : jn (a1 ++ u, c1 ++ w) (c1, c2) = some (a1 ++ u, c2 ++ w) := jn_some.mpr (.inr ⟨w, rfl, rfl⟩)
            rw [e] at hr; injection hr with hr; exact hr.symm
          subst this
          exact jn_some.mpr (.inl ⟨u, rfl, rfl⟩)
        · simp only at g1
          subst g1
          have : r = (a1, c2 ++ (w ++ u)) := by
            have e : jn (a1, c1 ++ w ++ u) (c1, c2) = some (a1, c2 ++ (w ++ u)) := jn_some.mpr (.inr ⟨w ++ u, by simp, rfl⟩)
            rw [e] at hr; injection hr with hr; exact hr.symm
          subst this
          exact jn_some.mpr (.inr ⟨u, rfl, by simp⟩)
      · intro hr
        rcases jn_some.mp hr with ⟨v, k1, rfl⟩ | ⟨v, k1, rfl⟩
        · simp only at k1
          subst k1
          exact ⟨(a1 ++ v, c1 ++ w), jn_some.mpr (.inl ⟨v, rfl, rfl⟩), jn_some.mpr (.inr ⟨w, rfl, rfl⟩)⟩
        · simp only at k1
          subst k1
          exact ⟨(a1, c1 ++ w ++ v), jn_some.mpr (.inr ⟨v, rfl, rfl⟩), jn_some.mpr (.inr ⟨w ++ v, by simp, by simp⟩)⟩
  cases e : jn (a1, a2) y with
  | some r => exact (key r).mpr e
  | none =>
    cases e2 : (jn (a1, a2) (x1, x2)).bind (fun z => jn z (c1, c2)) with
    | none => rfl
    | some r => rw [(key r).mp e2] at e; cases e
theorem jn_len {a b r : Eff} {m n : Nat} (h : jn a b = some r) (ha : a.1.length ≤ m ∧ a.2.length ≤ m) (hb : b.1.length ≤ n ∧ b.2.length ≤ n) : r.1.length ≤ m + n ∧ r.2.length ≤ m + n := by
  rcases jn_some.mp h with ⟨w, h1, rfl⟩ | ⟨w, h1, rfl⟩
  · have := congrArg List.length h1
    simp only [List.length_append] at this ⊢
    omega
  · have := congrArg List.length h1
    simp only [List.length_append] at this ⊢
    omega
theorem jn_nil (c : Eff) : jn ([], []) c = some c := jn_some.mpr (.inl ⟨c.1, rfl, rfl⟩)
/-- from a, the deeds of a row -/
def fold (a : Option Eff) (cs : List Eff) : Option Eff := cs.foldl (fun f c => f.bind fun f => jn f c) a
theorem fold_none (cs : List Eff) : fold none cs = none := by
  induction cs with
  | nil => rfl
  | cons c cs ih => exact ih
theorem fold_jn : ∀ (cs : List Eff) (a x y : Eff), fold (some x) cs = some y → fold (jn a x) cs = jn a y
  | [], a, x, y, h => by cases h; rfl
  | c :: cs, a, x, y, h => by
    show fold ((jn a x).bind fun f => jn f c) cs = _
    have h : fold (jn x c) cs = some y := h
    cases e : jn x c with
    | none => rw [e, fold_none] at h; cases h
    | some x' =>
      rw [e] at h
      rw [jn_assoc e]
      exact fold_jn cs a x' y h
theorem fold_app (a : Option Eff) (cs ds : List Eff) : fold a (cs ++ ds) = fold (fold a cs) ds := List.foldl_append ..
/-- two rows one behind the other -/
theorem fold_two {cs ds : List Eff} {x y : Eff} (h1 : fold (some ([], [])) cs = some x) (h2 : fold (some ([], [])) ds = some y) : jn x y = fold (some ([], [])) (cs ++ ds) := by
  rw [fold_app, h1]
  have := fold_jn ds x ([], []) y h2
  rw [← this]
  congr 1
  rw [jn_some.mpr (.inr ⟨x.2, rfl, rfl⟩)]
  rfl
theorem fold_len : ∀ (cs : List Eff) {a y : Eff} {m n : Nat}, fold (some a) cs = some y → a.1.length ≤ m ∧ a.2.length ≤ m → (∀ c ∈ cs, c.1.length ≤ n ∧ c.2.length ≤ n) → y.1.length ≤ m + cs.length * n ∧ y.2.length ≤ m + cs.length * n
  | [], a, y, m, n, h, ha, _ => by cases h; simpa using ha
  | c :: cs, a, y, m, n, h, ha, hc => by
    have h : fold (jn a c) cs = some y := h
    cases e : jn a c with
    | none => rw [e, fold_none] at h; cases h
    | some x =>
      rw [e] at h
      have hx := jn_len e ha (hc c List.mem_cons_self)
      have := fold_len cs h hx fun d hd => hc d (List.mem_cons_of_mem _ hd)
      rw [List.length_cons, Nat.succ_mul]
      omega
end HeadT

set_option linter.all false
set_option maxRecDepth 100000
set_option maxHeartbeats 1000000
namespace HeadT
open Mn
-- MAC
local macro_rules
  | `(tactic| sizeOf_list_dec) => `(tactic| first | exact rfl | with_reducible assumption | exact decide_eq_true (by omega) | exact decide_eq_false (by omega) | (rw [Bool.not_eq_true']; exact decide_eq_false (by omega)) | (rw [Bool.not_eq_false']; exact decide_eq_true (by omega)) | (simp (config := { decide := true }) only [*, decide_true, decide_false, Bool.not_true, Bool.not_false]; done))
local macro_rules
  | `(tactic| array_mem_dec) => `(tactic| first
    | with_reducible exact len_map
    | with_reducible exact slV_take
    | with_reducible exact slV_drop
    | ((with_reducible apply slV_takez); omega)
    | ((with_reducible apply slV_dropz); omega)
    | ((with_reducible apply add_map); (try simp only [List.length_take, List.length_drop, List.length_append, List.length_cons, List.length_nil]); omega)
    | with_reducible exact eqV_pile
    | with_reducible exact neV_pile
    | with_reducible exact eqV_eff
    | ((with_reducible apply mul_v); omega)
    | ((with_reducible apply mul_one); omega)
    | ((with_reducible apply mul_tup); omega)
    | with_reducible exact tup_map
    | with_reducible exact eqV_int
    | with_reducible exact neV_int
    | ((with_reducible apply ins_slot); exact rfl; ((show (_ : Nat) < 16777216); (try simp only [List.length_map, List.length_append, List.length_cons, List.length_nil]); omega); omega; omega)
    | ((with_reducible apply str_v); assumption)
    | ((with_reducible apply isi_ref); assumption)
    | ((with_reducible apply add_tup); (try simp only [List.length_map, List.length_append, List.length_replicate, List.length_cons, List.length_nil]); omega)
    | ((with_reducible apply mod_v); omega)
    | ((with_reducible apply div_v) <;> omega)
    | ((with_reducible apply app_slot); exact rfl; (show (_ : Nat) < 16777216); (try simp only [List.length_map, List.length_append, List.length_cons, List.length_nil]); omega)
    | ((with_reducible apply pop_slot); exact rfl; omega; omega; first | assumption | exact rfl)
    | ((with_reducible apply putz_own); exact rfl; omega; (try simp only [List.length_set, List.length_map, List.length_append, List.length_replicate, List.length_cons, List.length_nil]); omega)
    | ((with_reducible apply putz_ref); assumption; omega; (try simp only [List.length_set, List.length_map, List.length_append, List.length_replicate, List.length_cons, List.length_nil]); omega)
    | ((with_reducible apply ixz_own); exact rfl; omega; first | assumption | exact rfl)
    | ((with_reducible apply ixz_tup); omega; first | assumption | exact rfl)
    | ((with_reducible apply ixz_ref); assumption; omega; first | assumption | exact rfl)
    | exact rfl
    | assumption)
local macro_rules
  | `(tactic| array_get_dec) => `(tactic| first
    | with_reducible exact kE_ev
    | ((with_reducible apply vE_w); exact rfl)
    | ((with_reducible apply vE_o); exact rfl)
    | ((with_reducible apply op2_ev); array_get_dec; array_get_dec; array_mem_dec)
    | ((with_reducible apply op1_ev); array_get_dec; array_mem_dec)
    | with_reducible exact asN_ev
    | ((with_reducible apply asC_ev); array_get_dec; array_get_dec)
    | ((with_reducible apply tupD_ev); array_get_dec; exact rfl; exact rfl; (show (_ : Nat) ≤ 16777216); simp)
    | ((with_reducible apply tup_ev); array_get_dec; exact rfl; (show (_ : Nat) ≤ 16777216); simp)
    | ((with_reducible apply lst_ev); array_get_dec; exact rfl; (show (_ : Nat) ≤ 16777216); simp)
    | ((with_reducible apply callH_ev); array_get_dec; exact rfl; first | (apply callV_p; exact rfl; assumption; exact rfl) | (apply callV_q; exact rfl; assumption))
    | ((with_reducible apply callE_q); array_get_dec; exact rfl; assumption)
    | ((with_reducible apply meth_ev); array_get_dec; (first | exact rfl | exact isl_ref (by assumption)); array_get_dec; array_mem_dec)
    | ((with_reducible apply tst_eq); array_get_dec; array_mem_dec; first | exact rfl | sizeOf_list_dec)
    | ((with_reducible apply notT_eq); array_get_dec; first | exact rfl | sizeOf_list_dec)
    | ((with_reducible apply and_c); array_get_dec; first | (left; refine ⟨?_, ?_⟩; sizeOf_list_dec; array_get_dec) | (right; refine ⟨?_, ?_⟩; sizeOf_list_dec; exact rfl))
    | ((with_reducible apply or_c); array_get_dec; first | (left; refine ⟨?_, ?_⟩; sizeOf_list_dec; exact rfl) | (right; refine ⟨?_, ?_⟩; sizeOf_list_dec; array_get_dec))
    | ((with_reducible apply andE_c); array_get_dec; array_mem_dec; first | (left; refine ⟨?_, ?_⟩; sizeOf_list_dec; array_get_dec) | (right; refine ⟨?_, ?_⟩; sizeOf_list_dec; exact rfl))
    | ((with_reducible apply orE_c); array_get_dec; array_mem_dec; first | (left; refine ⟨?_, ?_⟩; sizeOf_list_dec; exact rfl) | (right; refine ⟨?_, ?_⟩; sizeOf_list_dec; array_get_dec))
    | ((with_reducible apply chE_t); array_get_dec; array_get_dec; array_mem_dec; array_get_dec; array_mem_dec)
    | ((with_reducible apply chE_f); array_get_dec; array_get_dec; array_mem_dec)
    | ((with_reducible apply ite_c); array_get_dec; first | (left; refine ⟨?_, ?_⟩; sizeOf_list_dec; array_get_dec) | (right; refine ⟨?_, ?_⟩; sizeOf_list_dec; array_get_dec))
    | ((with_reducible apply lc_ev); array_get_dec; assumption)
    | ((with_reducible apply sl_ev); array_get_dec; array_get_dec; array_get_dec; array_mem_dec)
    | with_reducible exact no_ev
    | ((with_reducible apply some_ev); array_get_dec)
    | ((with_reducible apply itR1_z); array_get_dec; omega; omega)
    | ((with_reducible apply itE_ev); array_get_dec; exact rfl)
    | with_reducible exact nx_ev
    | ((with_reducible apply seq_nx); array_get_dec; array_get_dec)
    | ((with_reducible apply seq_rt); array_get_dec)
    | ((with_reducible apply if_c); array_get_dec; first | (left; refine ⟨?_, ?_⟩; sizeOf_list_dec; array_get_dec) | (right; refine ⟨?_, ?_⟩; sizeOf_list_dec; array_get_dec))
    | ((with_reducible apply ret_ev); array_get_dec)
    | ((with_reducible apply set_ev); array_get_dec; exact rfl)
    | ((with_reducible apply expr_ev); array_get_dec)
    | ((with_reducible apply unp_ev); array_get_dec; exact rfl)
    | ((with_reducible apply par_ev); array_get_dec; exact rfl; exact rfl; exact rfl)
    | ((with_reducible apply for_ev); array_get_dec; assumption)
    | ((with_reducible apply put_ev); array_get_dec; array_get_dec; array_get_dec; exact rfl; array_mem_dec))
-- ENDMAC
abbrev pD (p : List Int) : D := .tup (p.map D.int)
abbrev eD (e : Eff) : D := .tup [pD e.1, pD e.2]
def oE : Option Eff → D
  | none => .non
  | some e => eD e
theorem begins_sp (k : Nat) (p f : List Int) : callF fns (k + 1) 0 [.d (pD p), .d (pD f)] [] = .ok (bR (decide (p.take f.length = f))) [] := by
  apply call_ex (B := B0) (ρ := [.w (.d (pD p)), .w (.d (pD f))]) rfl rfl rfl
  apply ex2
  · unfold B0
    array_get_dec
  · rfl
theorem joined_sp (k : Nat) (a b : Eff) (ha : a.1.length ≤ 100000 ∧ a.2.length ≤ 100000) (hb : b.1.length ≤ 100000 ∧ b.2.length ≤ 100000) : ∃ h, callF fns (k + 2) 1 [.d (eD a), .d (eD b)] [] = .ok (.w (.d (oE (jn a b)))) h := by
  have C1 := begins_sp k b.1 a.2
  have C2 := begins_sp k a.2 b.1
  obtain ⟨a1, a2⟩ := a
  obtain ⟨b1, b2⟩ := b
  simp only at ha hb C1 C2
  refine ⟨[], ?_⟩
  apply call_ex (B := B1) (ρ := [.w (.d (eD (a1, a2))), .w (.d (eD (b1, b2))), .un, .un, .un, .un]) rfl rfl rfl
  generalize callF fns (k + 1) = call at *
  by_cases h1 : b1.take a2.length = a2
  · rw [decide_eq_true h1] at C1
    have e : jn (a1, a2) (b1, b2) = some (a1 ++ b1.drop a2.length, b2) := jn_some.mpr (.inl ⟨b1.drop a2.length, by rw [← List.take_append_drop a2.length b1, h1]; simp, rfl⟩)
    rw [e]
    apply ex2
    · unfold B1
      array_get_dec
    · rfl
  · rw [decide_eq_false h1] at C1
    by_cases h2 : a2.take b1.length = b1
    · rw [decide_eq_true h2] at C2
      have e : jn (a1, a2) (b1, b2) = some (a1, b2 ++ a2.drop b1.length) := jn_some.mpr (.inr ⟨a2.drop b1.length, by rw [← List.take_append_drop b1.length a2, h2]; simp, rfl⟩)
      rw [e]
      apply ex2
      · unfold B1
        array_get_dec
      · rfl
    · rw [decide_eq_false h2] at C2
      have e : jn (a1, a2) (b1, b2) = none := jn_none.mpr fun r hr => by
        rcases hr with ⟨w, g, _⟩ | ⟨w, g, _⟩
        · simp only at g
          subst g
          exact h1 List.take_left
        · simp only at g
          subst g
          exact h2 List.take_left
      rw [e]
      apply ex2
      · unfold B1
        array_get_dec
      · rfl
theorem ljoined_sp (k : Nat) (a b : Eff) (ha : a.1.length ≤ 100000 ∧ a.2.length ≤ 100000) (hb : b.1.length ≤ 100000 ∧ b.2.length ≤ 100000) : ∃ h, callF fns (k + 1) 50 [.d (eD a), .d (eD b)] [] = .ok (.w (.d (oE (jn a b)))) h := by
  obtain ⟨a1, a2⟩ := a
  obtain ⟨b1, b2⟩ := b
  simp only at ha hb
  refine ⟨[], ?_⟩
  apply call_ex (B := B50) (ρ := [.w (.d (eD (a1, a2))), .w (.d (eD (b1, b2))), .un, .un, .un]) rfl rfl rfl
  have em : (if (b1.length : Int) < (a2.length : Int) then (b1.length : Int) else (a2.length : Int)) = ((min a2.length b1.length : Nat) : Int) := by split <;> omega
  have M : ∀ s : Mn.S, min2V s (iR (a2.length : Nat)) (iR (b1.length : Nat)) = some (iR ((min a2.length b1.length : Nat) : Int)) := fun s => by
    show some (iR (if (b1.length : Int) < (a2.length : Int) then (b1.length : Int) else (a2.length : Int))) = _
    rw [em]
  generalize callF fns k = call at *
  have S4 : setS 4 (op2 min2V (op1 lenV (vE 2)) (op1 lenV (vE 3))) ⟨[.w (.d (eD (a1, a2))), .w (.d (eD (b1, b2))), .w (.d (pD a2)), .w (.d (pD b1)), .un], []⟩ = .nx ⟨[.w (.d (eD (a1, a2))), .w (.d (eD (b1, b2))), .w (.d (pD a2)), .w (.d (pD b1)), .w (.d (.int ((min a2.length b1.length : Nat) : Int)))], []⟩ :=
    set_ev (op2_ev (op1_ev rfl len_map) (op1_ev rfl len_map) (M _)) rfl
  by_cases q : a2.take (min a2.length b1.length) = b1.take (min a2.length b1.length)
  · have e : jn (a1, a2) (b1, b2) = some (a1 ++ b1.drop (min a2.length b1.length), b2 ++ a2.drop (min a2.length b1.length)) := by
      unfold jn
      rw [if_pos q]
    rw [e]
    generalize min a2.length b1.length = m at *
    apply ex2
    · unfold B50
      apply seq_nx
      · array_get_dec
      apply seq_nx
      · array_get_dec
      apply seq_nx
      · exact S4
      · array_get_dec
    · rfl
  · have e : jn (a1, a2) (b1, b2) = none := by
      unfold jn
      rw [if_neg q]
    rw [e]
    generalize min a2.length b1.length = m at *
    apply ex2
    · unfold B50
      apply seq_nx
      · array_get_dec
      apply seq_nx
      · array_get_dec
      apply seq_nx
      · exact S4
      · array_get_dec
    · rfl
theorem extended_sp (k : Nat) (e : Eff) (p : List Int) (he : e.1.length ≤ 100000 ∧ e.2.length ≤ 100000) (hp : p.length ≤ 100000) : callF fns (k + 1) 3 [.d (eD e), .d (pD p)] [] = .ok (.w (.d (eD (e.1 ++ p, e.2 ++ p)))) [] := by
  apply call_ex (B := B3) (ρ := [.w (.d (eD e)), .w (.d (pD p))]) rfl rfl rfl
  apply ex2
  · unfold B3
    array_get_dec
  · rfl
/-- a is b extended -/
def isX (a b : Eff) : Bool := decide (a.1 = b.1 ++ a.1.drop b.1.length) && decide (a.2 = b.2 ++ a.1.drop b.1.length)
theorem isx_sp (k : Nat) (a b : Eff) (ha : a.1.length ≤ 100000 ∧ a.2.length ≤ 100000) (hb : b.1.length ≤ 100000 ∧ b.2.length ≤ 100000) : ∃ h, callF fns (k + 1) 4 [.d (eD a), .d (eD b)] [] = .ok (bR (isX a b)) h := by
  obtain ⟨a1, a2⟩ := a
  obtain ⟨b1, b2⟩ := b
  simp only at ha hb
  refine ⟨[], ?_⟩
  apply call_ex (B := B4) (ρ := [.w (.d (eD (a1, a2))), .w (.d (eD (b1, b2))), .un, .un]) rfl rfl rfl
  unfold isX
  simp only
  by_cases h1 : (a1.length : Int) - b1.length < 0
  · have : decide (a1 = b1 ++ a1.drop b1.length) = false := decide_eq_false fun z => by
      have := congrArg List.length z
      simp only [List.length_append, List.length_drop] at this
      omega
    rw [this, Bool.false_and]
    apply ex2
    · unfold B4
      array_get_dec
    · rfl
  · by_cases h2 : (a2.length : Int) - b2.length = a1.length - b1.length
    · apply ex2
      · unfold B4
        array_get_dec
      · rfl
    · have : decide (a2 = b2 ++ a1.drop b1.length) = false := decide_eq_false fun z => by
        have := congrArg List.length z
        simp only [List.length_append, List.length_drop] at this
        omega
      rw [this, Bool.and_false]
      apply ex2
      · unfold B4
        array_get_dec
      · rfl
theorem isfor_sp (k : Nat) (o : Option Eff) (e : Eff) (ho : ∀ a, o = some a → a.1.length ≤ 100000 ∧ a.2.length ≤ 100000) (he : e.1.length ≤ 100000 ∧ e.2.length ≤ 100000) : ∃ h, callF fns (k + 1) 52 [.d (oE o), .d (eD e)] [] = .ok (bR (match o with | some a => isX e a | none => false)) h := by
  obtain ⟨e1, e2⟩ := e
  refine ⟨[], ?_⟩
  cases o with
  | none =>
    apply call_ex (B := B52) (ρ := [.w (.d .non), .w (.d (eD (e1, e2))), .un, .un, .un]) rfl rfl rfl
    apply ex2
    · unfold B52
      array_get_dec
    · rfl
  | some a =>
    have ha := ho a rfl
    obtain ⟨a1, a2⟩ := a
    simp only at ha he
    apply call_ex (B := B52) (ρ := [.w (.d (eD (a1, a2))), .w (.d (eD (e1, e2))), .un, .un, .un]) rfl rfl rfl
    have eq : isX (e1, e2) (a1, a2) = (decide (e1.take a1.length = a1) && decide (e2 = a2 ++ e1.drop a1.length)) := by
      unfold isX
      simp only
      congr 1
      apply decide_eq_decide.mpr
      constructor
      · intro z
        have := congrArg (List.take a1.length) z
        rw [List.take_left] at this
        exact this
      · intro z
        conv => lhs; rw [← List.take_append_drop a1.length e1, z]
    simp only [eq]
    by_cases h1 : e1.take a1.length = a1
    · rw [decide_eq_true h1, Bool.true_and]
      apply ex2
      · unfold B52
        array_get_dec
      · rfl
    · rw [decide_eq_false h1, Bool.false_and]
      apply ex2
      · unfold B52
        array_get_dec
      · show Res2.ok (bR (decide (e1.take a1.length = a1))) [] = _
        rw [decide_eq_false h1]
theorem alike_sp (k : Nat) (a b : Eff) (ha : a.1.length ≤ 100000 ∧ a.2.length ≤ 100000) (hb : b.1.length ≤ 100000 ∧ b.2.length ≤ 100000) : ∃ h, callF fns (k + 2) 5 [.d (eD a), .d (eD b)] [] = .ok (bR (isX a b || isX b a)) h := by
  obtain ⟨h1, C1⟩ := isx_sp k a b ha hb
  obtain ⟨h2, C2⟩ := isx_sp k b a hb ha
  refine ⟨[], ?_⟩
  apply call_ex (B := B5) (ρ := [.w (.d (eD a)), .w (.d (eD b))]) rfl rfl rfl
  generalize callF fns (k + 1) = call at *
  cases e : isX a b with
  | true =>
    rw [e] at C1
    apply ex2
    · unfold B5
      array_get_dec
    · rfl
  | false =>
    rw [e] at C1
    apply ex2
    · unfold B5
      array_get_dec
    · rfl
end HeadT

set_option linter.all false
set_option maxRecDepth 100000
set_option maxHeartbeats 1000000
namespace HeadT
open Mn
-- MAC
local macro_rules
  | `(tactic| sizeOf_list_dec) => `(tactic| first | exact rfl | with_reducible assumption | exact decide_eq_true (by omega) | exact decide_eq_false (by omega) | (rw [Bool.not_eq_true']; exact decide_eq_false (by omega)) | (rw [Bool.not_eq_false']; exact decide_eq_true (by omega)) | (simp (config := { decide := true }) only [*, decide_true, decide_false, Bool.not_true, Bool.not_false]; done))
local macro_rules
  | `(tactic| array_mem_dec) => `(tactic| first
    | with_reducible exact len_map
    | with_reducible exact slV_take
    | with_reducible exact slV_drop
    | ((with_reducible apply slV_takez); omega)
    | ((with_reducible apply slV_dropz); omega)
    | ((with_reducible apply add_map); (try simp only [List.length_take, List.length_drop, List.length_append, List.length_cons, List.length_nil]); omega)
    | with_reducible exact eqV_pile
    | with_reducible exact neV_pile
    | with_reducible exact eqV_eff
    | ((with_reducible apply mul_v); omega)
    | ((with_reducible apply mul_one); omega)
    | ((with_reducible apply mul_tup); omega)
    | with_reducible exact tup_map
    | with_reducible exact eqV_int
    | with_reducible exact neV_int
    | ((with_reducible apply ins_slot); exact rfl; ((show (_ : Nat) < 16777216); (try simp only [List.length_map, List.length_append, List.length_cons, List.length_nil]); omega); omega; omega)
    | ((with_reducible apply str_v); assumption)
    | ((with_reducible apply isi_ref); assumption)
    | ((with_reducible apply add_tup); (try simp only [List.length_map, List.length_append, List.length_replicate, List.length_cons, List.length_nil]); omega)
    | ((with_reducible apply mod_v); omega)
    | ((with_reducible apply div_v) <;> omega)
    | ((with_reducible apply app_slot); exact rfl; (show (_ : Nat) < 16777216); (try simp only [List.length_map, List.length_append, List.length_cons, List.length_nil]); omega)
    | ((with_reducible apply pop_slot); exact rfl; omega; omega; first | assumption | exact rfl)
    | ((with_reducible apply putz_own); exact rfl; omega; (try simp only [List.length_set, List.length_map, List.length_append, List.length_replicate, List.length_cons, List.length_nil]); omega)
    | ((with_reducible apply putz_ref); assumption; omega; (try simp only [List.length_set, List.length_map, List.length_append, List.length_replicate, List.length_cons, List.length_nil]); omega)
    | ((with_reducible apply ixz_own); exact rfl; omega; first | assumption | exact rfl)
    | ((with_reducible apply ixz_tup); omega; first | assumption | exact rfl)
    | ((with_reducible apply ixz_ref); assumption; omega; first | assumption | exact rfl)
    | exact rfl
    | assumption)
local macro_rules
  | `(tactic| array_get_dec) => `(tactic| first
    | with_reducible exact kE_ev
    | ((with_reducible apply vE_w); exact rfl)
    | ((with_reducible apply vE_o); exact rfl)
    | ((with_reducible apply op2_ev); array_get_dec; array_get_dec; array_mem_dec)
    | ((with_reducible apply op1_ev); array_get_dec; array_mem_dec)
    | with_reducible exact asN_ev
    | ((with_reducible apply asC_ev); array_get_dec; array_get_dec)
    | ((with_reducible apply tupD_ev); array_get_dec; exact rfl; exact rfl; (show (_ : Nat) ≤ 16777216); simp)
    | ((with_reducible apply tup_ev); array_get_dec; exact rfl; (show (_ : Nat) ≤ 16777216); simp)
    | ((with_reducible apply lst_ev); array_get_dec; exact rfl; (show (_ : Nat) ≤ 16777216); simp)
    | ((with_reducible apply callH_ev); array_get_dec; exact rfl; first | (apply callV_p; exact rfl; assumption; exact rfl) | (apply callV_q; exact rfl; assumption))
    | ((with_reducible apply callE_q); array_get_dec; exact rfl; assumption)
    | ((with_reducible apply meth_ev); array_get_dec; (first | exact rfl | exact isl_ref (by assumption)); array_get_dec; array_mem_dec)
    | ((with_reducible apply tst_eq); array_get_dec; array_mem_dec; first | exact rfl | sizeOf_list_dec)
    | ((with_reducible apply notT_eq); array_get_dec; first | exact rfl | sizeOf_list_dec)
    | ((with_reducible apply and_c); array_get_dec; first | (left; refine ⟨?_, ?_⟩; sizeOf_list_dec; array_get_dec) | (right; refine ⟨?_, ?_⟩; sizeOf_list_dec; exact rfl))
    | ((with_reducible apply or_c); array_get_dec; first | (left; refine ⟨?_, ?_⟩; sizeOf_list_dec; exact rfl) | (right; refine ⟨?_, ?_⟩; sizeOf_list_dec; array_get_dec))
    | ((with_reducible apply andE_c); array_get_dec; array_mem_dec; first | (left; refine ⟨?_, ?_⟩; sizeOf_list_dec; array_get_dec) | (right; refine ⟨?_, ?_⟩; sizeOf_list_dec; exact rfl))
    | ((with_reducible apply orE_c); array_get_dec; array_mem_dec; first | (left; refine ⟨?_, ?_⟩; sizeOf_list_dec; exact rfl) | (right; refine ⟨?_, ?_⟩; sizeOf_list_dec; array_get_dec))
    | ((with_reducible apply chE_t); array_get_dec; array_get_dec; array_mem_dec; array_get_dec; array_mem_dec)
    | ((with_reducible apply chE_f); array_get_dec; array_get_dec; array_mem_dec)
    | ((with_reducible apply ite_c); array_get_dec; first | (left; refine ⟨?_, ?_⟩; sizeOf_list_dec; array_get_dec) | (right; refine ⟨?_, ?_⟩; sizeOf_list_dec; array_get_dec))
    | ((with_reducible apply lc_ev); array_get_dec; assumption)
    | ((with_reducible apply sl_ev); array_get_dec; array_get_dec; array_get_dec; array_mem_dec)
    | with_reducible exact no_ev
    | ((with_reducible apply some_ev); array_get_dec)
    | ((with_reducible apply itR1_z); array_get_dec; omega; omega)
    | ((with_reducible apply itE_ev); array_get_dec; exact rfl)
    | with_reducible exact nx_ev
    | ((with_reducible apply seq_nx); array_get_dec; array_get_dec)
    | ((with_reducible apply seq_rt); array_get_dec)
    | ((with_reducible apply if_c); array_get_dec; first | (left; refine ⟨?_, ?_⟩; sizeOf_list_dec; array_get_dec) | (right; refine ⟨?_, ?_⟩; sizeOf_list_dec; array_get_dec))
    | ((with_reducible apply ret_ev); array_get_dec)
    | ((with_reducible apply set_ev); array_get_dec; exact rfl)
    | ((with_reducible apply expr_ev); array_get_dec)
    | ((with_reducible apply unp_ev); array_get_dec; exact rfl)
    | ((with_reducible apply par_ev); array_get_dec; exact rfl; exact rfl; exact rfl)
    | ((with_reducible apply for_ev); array_get_dec; assumption)
    | ((with_reducible apply put_ev); array_get_dec; array_get_dec; array_get_dec; exact rfl; array_mem_dec))
-- ENDMAC
/-- deeds: a name, an effect -/
abbrev Dd := List Nat × Eff
abbrev dD (d : Dd) : D := .tup [.str d.1, pD d.2.1, pD d.2.2]
abbrev nI (v : Nat) : D := .int (v : Int)
abbrev rwD (r : List Nat) : D := .tup (r.map nI)
abbrev dsD (ds : List Dd) : D := .tup (ds.map dD)
abbrev prD (k n b : D) (ds : List Dd) : D := .tup [k, dsD ds, n, b]
def ef (ds : List Dd) (d : Nat) : Eff := (ds.getD d ([], ([], []))).2
def Sm (ds : List Dd) : Prop := ∀ d ∈ ds, d.2.1.length ≤ 100 ∧ d.2.2.length ≤ 100
def Bd (n : Nat) (o : Option Eff) : Prop := ∀ a, o = some a → a.1.length ≤ n ∧ a.2.length ≤ n
def In (ds : List Dd) (r : List Nat) : Prop := ∀ d ∈ r, d < ds.length
theorem ds_get {ds : List Dd} {d : Nat} (h : d < ds.length) : ∃ nm e, (ds.map dD)[d]? = some (dD (nm, e)) ∧ ef ds d = e ∧ (nm, e) ∈ ds := by
  refine ⟨ds[d].1, ds[d].2, ?_, ?_, List.getElem_mem h⟩
  · rw [List.getElem?_map, List.getElem?_eq_getElem h]; rfl
  · unfold ef
    rw [List.getD_eq_getElem?_getD, List.getElem?_eq_getElem h]; rfl
/-- the whole row -/
def rowE (ds : List Dd) (o : Option Eff) (r : List Nat) : Option Eff := fold o (r.map (ef ds))
theorem rowE_cons {ds : List Dd} {o : Option Eff} {d : Nat} {r : List Nat} : rowE ds o (d :: r) = rowE ds (o.bind fun a => jn a (ef ds d)) r := rfl
theorem bd_step {ds : List Dd} {o : Option Eff} {d m : Nat} (sm : Sm ds) (hd : d < ds.length) (h : Bd m o) : Bd (m + 100) (o.bind fun a => jn a (ef ds d)) := fun a ha => by
  obtain ⟨x, hx, h2⟩ := Option.bind_eq_some_iff.mp ha
  obtain ⟨nm, e, _, e2, hm⟩ := ds_get hd
  exact jn_len h2 (h x hx) (by rw [e2]; exact sm _ hm)
theorem bd_row {ds : List Dd} (sm : Sm ds) : ∀ (r : List Nat) (o : Option Eff) (m : Nat), In ds r → Bd m o → Bd (m + r.length * 100) (rowE ds o r)
  | [], o, m, _, h => by show Bd (m + 0 * 100) o; simpa using h
  | d :: r, o, m, hr, h => by
    rw [rowE_cons]
    have := bd_row sm r _ (m + 100) (fun x hx => hr x (List.mem_cons_of_mem _ hx)) (bd_step sm (hr d List.mem_cons_self) h)
    rw [List.length_cons, Nat.succ_mul, show m + (r.length * 100 + 100) = m + 100 + r.length * 100 by omega]
    exact this
theorem b6_turn (k : Nat) {kk nn bb : D} {ds : List Dd} {o : Option Eff} {d : Nat} {rw' : W} (sm : Sm ds) (hd : d < ds.length) (hb : Bd 100000 o) :
    B6_1 (callF fns (k + 2)) ⟨[.w (.d (prD kk nn bb ds)), .w rw', .w (.d (oE o)), .w (.d (nI d))], []⟩ = .nx ⟨[.w (.d (prD kk nn bb ds)), .w rw', .w (.d (oE (o.bind fun a => jn a (ef ds d)))), .w (.d (nI d))], []⟩ := by
  cases o with
  | none =>
    generalize callF fns (k + 2) = call at *
    apply nx_as
    · unfold B6_1
      array_get_dec
    · rfl
  | some a =>
    obtain ⟨nm, e, x, e2, hm⟩ := ds_get hd
    have s1 := sm _ hm
    obtain ⟨h, C⟩ := joined_sp k a e (hb a rfl) ⟨by simp only at s1; omega, by simp only at s1; omega⟩
    rw [← e2] at C
    have ex : (dD (nm, e)) = .tup [.str nm, pD (ef ds d).1, pD (ef ds d).2] := by rw [e2]
    rw [ex] at x
    generalize callF fns (k + 2) = call at *
    apply nx_as
    · unfold B6_1
      array_get_dec
    · rfl
theorem b6_loop (k : Nat) {kk nn bb : D} {ds : List Dd} {rw' : W} (sm : Sm ds) : ∀ (r : List Nat) (o : Option Eff) (m : Nat) (e3 : E0), In ds r → Bd m o → m + r.length * 100 ≤ 100000 →
    ∃ e3', forL none (tgV 3) (B6_1 (callF fns (k + 2))) ((r.map nI).map W.d) ⟨[.w (.d (prD kk nn bb ds)), .w rw', .w (.d (oE o)), e3], []⟩ = .nx ⟨[.w (.d (prD kk nn bb ds)), .w rw', .w (.d (oE (rowE ds o r))), e3'], []⟩
  | [], o, m, e3, _, _, _ => ⟨e3, forL_nil rfl⟩
  | d :: r, o, m, e3, hr, hb, hl => by
    rw [List.length_cons, Nat.succ_mul] at hl
    have hd := hr d List.mem_cons_self
    have T := b6_turn k (kk := kk) (nn := nn) (bb := bb) (o := o) (d := d) (rw' := rw') sm hd (fun a ha => by have := hb a ha; omega)
    obtain ⟨e3', L⟩ := b6_loop k (kk := kk) (nn := nn) (bb := bb) (rw' := rw') sm r _ (m + 100) (.w (.d (nI d))) (fun x hx => hr x (List.mem_cons_of_mem _ hx)) (bd_step sm hd hb) (by omega)
    exact ⟨e3', forL_cons rfl rfl T L⟩
def e0 : Eff := ([], [])
theorem bd0 : Bd 0 (some e0) := fun a ha => by cases ha; exact ⟨Nat.le_refl _, Nat.le_refl _⟩
theorem rowEff_sp (k : Nat) (kk nn bb : D) (ds : List Dd) (r : List Nat) (sm : Sm ds) (hr : In ds r) (hl : r.length ≤ 900) :
    ∃ h, callF fns (k + 3) 6 [.d (prD kk nn bb ds), .d (rwD r)] [] = .ok (.w (.d (oE (rowE ds (some e0) r)))) h := by
  obtain ⟨e3', L⟩ := b6_loop k (kk := kk) (nn := nn) (bb := bb) (rw' := .d (rwD r)) sm r (some e0) 0 .un hr bd0 (by omega)
  refine ⟨[], ?_⟩
  apply call_ex (B := B6) (ρ := [.w (.d (prD kk nn bb ds)), .w (.d (rwD r)), .un, .un]) rfl rfl rfl
  generalize callF fns (k + 2) = call at *
  apply ex2
  · unfold B6
    apply seq_nx
    · array_get_dec
    apply seq_nx
    · apply for_ev
      · array_get_dec
      · exact L
    · array_get_dec
  · rfl
theorem ljoinedO_sp (k : Nat) (o : Option Eff) (b : Eff) (ho : Bd 100000 o) (hb : b.1.length ≤ 100000 ∧ b.2.length ≤ 100000) : ∃ h, callF fns (k + 1) 50 [.d (oE o), .d (eD b)] [] = .ok (.w (.d (oE (o.bind fun a => jn a b)))) h := by
  cases o with
  | some a => exact ljoined_sp k a b (ho a rfl) hb
  | none =>
    refine ⟨[], ?_⟩
    apply call_ex (B := B50) (ρ := [.w (.d .non), .w (.d (eD b)), .un, .un, .un]) rfl rfl rfl
    apply ex2
    · unfold B50
      array_get_dec
    · rfl
theorem b51_turn (k : Nat) {ds : List Dd} {o : Option Eff} {d : Nat} {rw' : W} (sm : Sm ds) (hd : d < ds.length) (hb : Bd 100000 o) :
    B51_1 (callF fns (k + 1)) ⟨[.w (.d (dsD ds)), .w rw', .w (.d (oE o)), .w (.d (nI d))], []⟩ = .nx ⟨[.w (.d (dsD ds)), .w rw', .w (.d (oE (o.bind fun a => jn a (ef ds d)))), .w (.d (nI d))], []⟩ := by
  obtain ⟨nm, e, x, e2, hm⟩ := ds_get hd
  have s1 := sm _ hm
  obtain ⟨h, C⟩ := ljoinedO_sp k o e hb ⟨by simp only at s1; omega, by simp only at s1; omega⟩
  rw [e2]
  generalize callF fns (k + 1) = call at *
  apply nx_as
  · unfold B51_1
    array_get_dec
  · rfl
theorem b51_loop (k : Nat) {ds : List Dd} {rw' : W} (sm : Sm ds) : ∀ (r : List Nat) (o : Option Eff) (m : Nat) (e3 : E0), In ds r → Bd m o → m + r.length * 100 ≤ 100000 →
    ∃ e3', forL none (tgV 3) (B51_1 (callF fns (k + 1))) ((r.map nI).map W.d) ⟨[.w (.d (dsD ds)), .w rw', .w (.d (oE o)), e3], []⟩ = .nx ⟨[.w (.d (dsD ds)), .w rw', .w (.d (oE (rowE ds o r))), e3'], []⟩
  | [], o, m, e3, _, _, _ => ⟨e3, forL_nil rfl⟩
  | d :: r, o, m, e3, hr, hb, hl => by
    rw [List.length_cons, Nat.succ_mul] at hl
    have hd := hr d List.mem_cons_self
    have T := b51_turn k (o := o) (d := d) (rw' := rw') sm hd (fun a ha => by have := hb a ha; omega)
    obtain ⟨e3', L⟩ := b51_loop k (rw' := rw') sm r _ (m + 100) (.w (.d (nI d))) (fun x hx => hr x (List.mem_cons_of_mem _ hx)) (bd_step sm hd hb) (by omega)
    exact ⟨e3', forL_cons rfl rfl T L⟩
theorem lrow_sp (k : Nat) (ds : List Dd) (r : List Nat) (sm : Sm ds) (hr : In ds r) (hl : r.length ≤ 900) :
    ∃ h, callF fns (k + 2) 51 [.d (dsD ds), .d (rwD r)] [] = .ok (.w (.d (oE (rowE ds (some e0) r)))) h := by
  obtain ⟨e3', L⟩ := b51_loop k (rw' := .d (rwD r)) sm r (some e0) 0 .un hr bd0 (by omega)
  refine ⟨[], ?_⟩
  apply call_ex (B := B51) (ρ := [.w (.d (dsD ds)), .w (.d (rwD r)), .un, .un]) rfl rfl rfl
  generalize callF fns (k + 1) = call at *
  apply ex2
  · unfold B51
    apply seq_nx
    · array_get_dec
    apply seq_nx
    · apply for_ev
      · array_get_dec
      · exact L
    · array_get_dec
  · rfl
theorem b2_turn (k : Nat) {o : Option Eff} {c : Eff} {rw' : W} (hc : c.1.length ≤ 100 ∧ c.2.length ≤ 100) (hb : Bd 100000 o) :
    B2_1 (callF fns (k + 2)) ⟨[.w rw', .w (.d (oE o)), .w (.d (eD c))], []⟩ = .nx ⟨[.w rw', .w (.d (oE (o.bind fun a => jn a c))), .w (.d (eD c))], []⟩ := by
  cases o with
  | none =>
    generalize callF fns (k + 2) = call at *
    apply nx_as
    · unfold B2_1
      array_get_dec
    · rfl
  | some a =>
    obtain ⟨h, C⟩ := joined_sp k a c (hb a rfl) ⟨by omega, by omega⟩
    generalize callF fns (k + 2) = call at *
    apply nx_as
    · unfold B2_1
      array_get_dec
    · rfl
theorem b2_loop (k : Nat) {rw' : W} : ∀ (cs : List Eff) (o : Option Eff) (m : Nat) (e3 : E0), (∀ c ∈ cs, c.1.length ≤ 100 ∧ c.2.length ≤ 100) → Bd m o → m + cs.length * 100 ≤ 100000 →
    ∃ e3', forL none (tgV 2) (B2_1 (callF fns (k + 2))) ((cs.map eD).map W.d) ⟨[.w rw', .w (.d (oE o)), e3], []⟩ = .nx ⟨[.w rw', .w (.d (oE (fold o cs))), e3'], []⟩
  | [], o, m, e3, _, _, _ => ⟨e3, forL_nil rfl⟩
  | c :: cs, o, m, e3, hr, hb, hl => by
    rw [List.length_cons, Nat.succ_mul] at hl
    have hc := hr c List.mem_cons_self
    have T := b2_turn k (o := o) (rw' := rw') hc (fun a ha => by have := hb a ha; omega)
    have hb2 : Bd (m + 100) (o.bind fun a => jn a c) := fun a ha => by
      obtain ⟨x, hx, h2⟩ := Option.bind_eq_some_iff.mp ha
      exact jn_len h2 (hb x hx) hc
    obtain ⟨e3', L⟩ := b2_loop k (rw' := rw') cs _ (m + 100) (.w (.d (eD c))) (fun x hx => hr x (List.mem_cons_of_mem _ hx)) hb2 (by omega)
    exact ⟨e3', forL_cons rfl rfl T L⟩
theorem alljoined_sp (k : Nat) (cs : List Eff) (hc : ∀ c ∈ cs, c.1.length ≤ 100 ∧ c.2.length ≤ 100) (hl : cs.length ≤ 900) :
    ∃ h, callF fns (k + 3) 2 [.d (.tup (cs.map eD))] [] = .ok (.w (.d (oE (fold (some e0) cs)))) h := by
  obtain ⟨e3', L⟩ := b2_loop k (rw' := .d (.tup (cs.map eD))) cs (some e0) 0 .un hc bd0 (by omega)
  refine ⟨[], ?_⟩
  apply call_ex (B := B2) (ρ := [.w (.d (.tup (cs.map eD))), .un, .un]) rfl rfl rfl
  generalize callF fns (k + 2) = call at *
  apply ex2
  · unfold B2
    apply seq_nx
    · array_get_dec
    apply seq_nx
    · apply for_ev
      · array_get_dec
      · exact L
    · array_get_dec
  · rfl
theorem rowfor_sp (k : Nat) (kk nn bb : D) (ds : List Dd) (r : List Nat) (e : Eff) (sm : Sm ds) (hr : In ds r) (hl : r.length ≤ 900) (he : e.1.length ≤ 100000 ∧ e.2.length ≤ 100000) :
    ∃ h, callF fns (k + 4) 7 [.d (prD kk nn bb ds), .d (rwD r), .d (eD e)] [] = .ok (bR (match rowE ds (some e0) r with | some a => isX e a | none => false)) h := by
  obtain ⟨h1, C⟩ := rowEff_sp k kk nn bb ds r sm hr hl
  have bd := bd_row sm r (some e0) 0 hr bd0
  refine ⟨[], ?_⟩
  apply call_ex (B := B7) (ρ := [.w (.d (prD kk nn bb ds)), .w (.d (rwD r)), .w (.d (eD e)), .un]) rfl rfl rfl
  cases q : rowE ds (some e0) r with
  | none =>
    rw [q] at C
    have C : callF fns (k + 3) 6 [.d (prD kk nn bb ds), .d (rwD r)] [] = .ok (.w (.d .non)) h1 := C
    generalize callF fns (k + 3) = call at *
    apply ex2
    · unfold B7
      array_get_dec
    · rfl
  | some a =>
    rw [q] at C
    have C : callF fns (k + 3) 6 [.d (prD kk nn bb ds), .d (rwD r)] [] = .ok (.w (.d (eD a))) h1 := C
    have ba := bd a q
    obtain ⟨h2, C2⟩ := isx_sp (k + 2) e a he ⟨by omega, by omega⟩
    generalize callF fns (k + 3) = call at *
    apply ex2
    · unfold B7
      array_get_dec
    · rfl
end HeadT

set_option linter.all false
set_option maxRecDepth 100000
set_option maxHeartbeats 1000000
namespace HeadT
open Mn
-- MAC
local macro_rules
  | `(tactic| sizeOf_list_dec) => `(tactic| first | exact rfl | with_reducible assumption | exact decide_eq_true (by omega) | exact decide_eq_false (by omega) | (rw [Bool.not_eq_true']; exact decide_eq_false (by omega)) | (rw [Bool.not_eq_false']; exact decide_eq_true (by omega)) | (simp (config := { decide := true }) only [*, decide_true, decide_false, Bool.not_true, Bool.not_false]; done))
local macro_rules
  | `(tactic| array_mem_dec) => `(tactic| first
    | with_reducible exact len_map
    | with_reducible exact slV_take
    | with_reducible exact slV_drop
    | ((with_reducible apply slV_takez); omega)
    | ((with_reducible apply slV_dropz); omega)
    | ((with_reducible apply add_map); (try simp only [List.length_take, List.length_drop, List.length_append, List.length_cons, List.length_nil]); omega)
    | with_reducible exact eqV_pile
    | with_reducible exact neV_pile
    | with_reducible exact eqV_eff
    | ((with_reducible apply mul_v); omega)
    | ((with_reducible apply mul_one); omega)
    | ((with_reducible apply mul_tup); omega)
    | with_reducible exact tup_map
    | with_reducible exact eqV_int
    | with_reducible exact neV_int
    | ((with_reducible apply ins_slot); exact rfl; ((show (_ : Nat) < 16777216); (try simp only [List.length_map, List.length_append, List.length_cons, List.length_nil]); omega); omega; omega)
    | ((with_reducible apply str_v); assumption)
    | ((with_reducible apply isi_ref); assumption)
    | ((with_reducible apply add_tup); (try simp only [List.length_map, List.length_append, List.length_replicate, List.length_cons, List.length_nil]); omega)
    | ((with_reducible apply mod_v); omega)
    | ((with_reducible apply div_v) <;> omega)
    | ((with_reducible apply app_slot); exact rfl; (show (_ : Nat) < 16777216); (try simp only [List.length_map, List.length_append, List.length_cons, List.length_nil]); omega)
    | ((with_reducible apply pop_slot); exact rfl; omega; omega; first | assumption | exact rfl)
    | ((with_reducible apply putz_own); exact rfl; omega; (try simp only [List.length_set, List.length_map, List.length_append, List.length_replicate, List.length_cons, List.length_nil]); omega)
    | ((with_reducible apply putz_ref); assumption; omega; (try simp only [List.length_set, List.length_map, List.length_append, List.length_replicate, List.length_cons, List.length_nil]); omega)
    | ((with_reducible apply ixz_own); exact rfl; omega; first | assumption | exact rfl)
    | ((with_reducible apply ixz_tup); omega; first | assumption | exact rfl)
    | ((with_reducible apply ixz_ref); assumption; omega; first | assumption | exact rfl)
    | exact rfl
    | assumption)
local macro_rules
  | `(tactic| array_get_dec) => `(tactic| first
    | with_reducible exact kE_ev
    | ((with_reducible apply vE_w); exact rfl)
    | ((with_reducible apply vE_o); exact rfl)
    | ((with_reducible apply op2_ev); array_get_dec; array_get_dec; array_mem_dec)
    | ((with_reducible apply op1_ev); array_get_dec; array_mem_dec)
    | with_reducible exact asN_ev
    | ((with_reducible apply asC_ev); array_get_dec; array_get_dec)
    | ((with_reducible apply tupD_ev); array_get_dec; exact rfl; exact rfl; (show (_ : Nat) ≤ 16777216); simp)
    | ((with_reducible apply tup_ev); array_get_dec; exact rfl; (show (_ : Nat) ≤ 16777216); simp)
    | ((with_reducible apply lst_ev); array_get_dec; exact rfl; (show (_ : Nat) ≤ 16777216); simp)
    | ((with_reducible apply callH_ev); array_get_dec; exact rfl; first | (apply callV_p; exact rfl; assumption; exact rfl) | (apply callV_q; exact rfl; assumption))
    | ((with_reducible apply callE_q); array_get_dec; exact rfl; assumption)
    | ((with_reducible apply meth_ev); array_get_dec; (first | exact rfl | exact isl_ref (by assumption)); array_get_dec; array_mem_dec)
    | ((with_reducible apply tst_eq); array_get_dec; array_mem_dec; first | exact rfl | sizeOf_list_dec)
    | ((with_reducible apply notT_eq); array_get_dec; first | exact rfl | sizeOf_list_dec)
    | ((with_reducible apply and_c); array_get_dec; first | (left; refine ⟨?_, ?_⟩; sizeOf_list_dec; array_get_dec) | (right; refine ⟨?_, ?_⟩; sizeOf_list_dec; exact rfl))
    | ((with_reducible apply or_c); array_get_dec; first | (left; refine ⟨?_, ?_⟩; sizeOf_list_dec; exact rfl) | (right; refine ⟨?_, ?_⟩; sizeOf_list_dec; array_get_dec))
    | ((with_reducible apply andE_c); array_get_dec; array_mem_dec; first | (left; refine ⟨?_, ?_⟩; sizeOf_list_dec; array_get_dec) | (right; refine ⟨?_, ?_⟩; sizeOf_list_dec; exact rfl))
    | ((with_reducible apply orE_c); array_get_dec; array_mem_dec; first | (left; refine ⟨?_, ?_⟩; sizeOf_list_dec; exact rfl) | (right; refine ⟨?_, ?_⟩; sizeOf_list_dec; array_get_dec))
    | ((with_reducible apply chE_t); array_get_dec; array_get_dec; array_mem_dec; array_get_dec; array_mem_dec)
    | ((with_reducible apply chE_f); array_get_dec; array_get_dec; array_mem_dec)
    | ((with_reducible apply ite_c); array_get_dec; first | (left; refine ⟨?_, ?_⟩; sizeOf_list_dec; array_get_dec) | (right; refine ⟨?_, ?_⟩; sizeOf_list_dec; array_get_dec))
    | ((with_reducible apply lc_ev); array_get_dec; assumption)
    | ((with_reducible apply sl_ev); array_get_dec; array_get_dec; array_get_dec; array_mem_dec)
    | with_reducible exact no_ev
    | ((with_reducible apply some_ev); array_get_dec)
    | ((with_reducible apply itR1_z); array_get_dec; omega; omega)
    | ((with_reducible apply itE_ev); array_get_dec; exact rfl)
    | with_reducible exact nx_ev
    | ((with_reducible apply seq_nx); array_get_dec; array_get_dec)
    | ((with_reducible apply seq_rt); array_get_dec)
    | ((with_reducible apply if_c); array_get_dec; first | (left; refine ⟨?_, ?_⟩; sizeOf_list_dec; array_get_dec) | (right; refine ⟨?_, ?_⟩; sizeOf_list_dec; array_get_dec))
    | ((with_reducible apply ret_ev); array_get_dec)
    | ((with_reducible apply set_ev); array_get_dec; exact rfl)
    | ((with_reducible apply expr_ev); array_get_dec)
    | ((with_reducible apply unp_ev); array_get_dec; exact rfl)
    | ((with_reducible apply par_ev); array_get_dec; exact rfl; exact rfl; exact rfl)
    | ((with_reducible apply for_ev); array_get_dec; assumption)
    | ((with_reducible apply put_ev); array_get_dec; array_get_dec; array_get_dec; exact rfl; array_mem_dec))
-- ENDMAC
abbrev Rw := List Nat × Eff
abbrev rwE (x : Rw) : D := .tup [rwD x.1, eD x.2]
abbrev rwW (x : Rw) : W := .d (rwE x)
def one (ds : List Dd) (x : Rw) (d : Nat) : List Rw := match jn x.2 (ef ds d) with
  | some t => [(x.1 ++ [d], t)]
  | none => []
def nx1 (ds : List Dd) (x : Rw) : List Rw := (List.range ds.length).flatMap (one ds x)
def nxt (ds : List Dd) (rows : List Rw) : List Rw := rows.flatMap (nx1 ds)
theorem one_len {ds : List Dd} {x : Rw} {d : Nat} : (one ds x d).length ≤ 1 := by unfold one; split <;> simp
theorem range_flat {α : Type} (f : Nat → List α) (m : Nat) : (List.range (m + 1)).flatMap f = (List.range m).flatMap f ++ f m := by rw [List.range_succ, List.flatMap_append]; simp
theorem flat_le {ds : List Dd} {x : Rw} : ∀ m, ((List.range m).flatMap (one ds x)).length ≤ m
  | 0 => by simp
  | m + 1 => by
    rw [range_flat, List.length_append]
    have := flat_le (ds := ds) (x := x) m
    have := one_len (ds := ds) (x := x) (d := m)
    omega
theorem nxt_le {ds : List Dd} : ∀ rows : List Rw, (nxt ds rows).length ≤ rows.length * ds.length
  | [] => by simp [nxt]
  | x :: rows => by
    have := nxt_le (ds := ds) rows
    have := flat_le (ds := ds) (x := x) ds.length
    show (nx1 ds x ++ nxt ds rows).length ≤ _
    rw [List.length_append, List.length_cons, Nat.succ_mul]
    unfold nx1
    omega
theorem take_flat {α β : Type} (f : α → List β) {l : List α} {m : Nat} {x : α} (h : l[m]? = some x) : (l.take (m + 1)).flatMap f = (l.take m).flatMap f ++ f x := by
  rw [List.take_succ, h, List.flatMap_append]; simp
/-- how long, how great at a lap -/
def Fit (l : Nat) (rows : List Rw) : Prop := ∀ x ∈ rows, x.1.length ≤ l ∧ x.2.1.length ≤ l * 100 ∧ x.2.2.length ≤ l * 100
theorem fit_nxt {ds : List Dd} {l : Nat} {rows : List Rw} (sm : Sm ds) (h : Fit l rows) : Fit (l + 1) (nxt ds rows) := fun y hy => by
  obtain ⟨x, hx, h1⟩ := List.mem_flatMap.mp hy
  obtain ⟨d, hd, h2⟩ := List.mem_flatMap.mp h1
  have hx := h x hx
  have hd := List.mem_range.mp hd
  unfold one at h2
  cases e : jn x.2 (ef ds d) with
  | none => rw [e] at h2; cases h2
  | some t =>
    rw [e] at h2
    cases List.mem_singleton.mp h2
    obtain ⟨nm, ee, _, e2, hm⟩ := ds_get hd
    have := jn_len e hx.2 (by rw [e2]; exact sm _ hm)
    simp only [List.length_append, List.length_cons, List.length_nil]
    omega
theorem enumL_at : ∀ (ws : List W) (k i : Nat), (enumL k ws)[i]? = (ws[i]?).map fun w => mkTup [.d (.int ((k + i : Nat) : Int)), w]
  | [], k, i => by simp [enumL]
  | w :: ws, k, 0 => by simp [enumL]
  | w :: ws, k, i + 1 => by
    simp only [enumL, List.getElem?_cons_succ]
    rw [enumL_at ws (k + 1) i, show k + 1 + i = k + (i + 1) by omega]
theorem enumL_ln : ∀ (ws : List W) (k : Nat), (enumL k ws).length = ws.length
  | [], _ => rfl
  | w :: ws, k => by simp [enumL, enumL_ln ws]
theorem itEnum_tup {a : Ex} {s s1 : S} {xs : List D} (h : a s = .ok (.w (.d (.tup xs))) s1) : itEnum a s = .ok ⟨enumL 0 (xs.map W.d), none⟩ s1 := by
  unfold itEnum
  rw [h]; rfl
theorem b8_turn (k : Nat) {prog rws : W} {ds : List Dd} {x : Rw} {d : Nat} {nm : List Nat} {found : List Rw} {e7 : E0} {h : List O} (sm : Sm ds) (hd : d < ds.length) (hnm : (nm, ef ds d) ∈ ds) (hx : x.1.length ≤ 1000 ∧ x.2.1.length ≤ 99000 ∧ x.2.2.length ≤ 99000) (hf : found.length < 10000000) :
    ∃ e7', B8_1 (callF fns (k + 2)) ⟨[.w prog, .w rws, .own (.lst (found.map rwW)), .w (.d (rwD x.1)), .w (.d (eD x.2)), .w (.d (nI d)), .w (.d (dD (nm, ef ds d))), e7], h⟩ = .nx ⟨[.w prog, .w rws, .own (.lst ((found ++ one ds x d).map rwW)), .w (.d (rwD x.1)), .w (.d (eD x.2)), .w (.d (nI d)), .w (.d (dD (nm, ef ds d))), e7'], h⟩ := by
  have s1 := sm _ hnm
  simp only at s1
  obtain ⟨hz, C⟩ := joined_sp k x.2 (ef ds d) ⟨by omega, by omega⟩ ⟨by omega, by omega⟩
  unfold one
  cases e : jn x.2 (ef ds d) with
  | none =>
    rw [e] at C
    have C : callF fns (k + 2) 1 [.d (eD x.2), .d (eD (ef ds d))] [] = .ok (.w (.d .non)) hz := C
    refine ⟨.w (.d .non), ?_⟩
    generalize callF fns (k + 2) = call at *
    apply nx_as
    · unfold B8_1
      array_get_dec
    · rw [List.append_nil]; rfl
  | some t =>
    rw [e] at C
    have C : callF fns (k + 2) 1 [.d (eD x.2), .d (eD (ef ds d))] [] = .ok (.w (.d (eD t))) hz := C
    refine ⟨.w (.d (eD t)), ?_⟩
    generalize callF fns (k + 2) = call at *
    apply nx_as
    · unfold B8_1
      array_get_dec
    · rw [List.map_append]
      show (⟨_, h⟩ : Mn.S) = ⟨_, h⟩
      congr 1
      show [_, _, E0.own (.lst (found.map rwW ++ [.d (.tup [.tup (x.1.map nI ++ [nI d]), eD t])])), _, _, _, _, _] = _
      rw [show x.1.map nI ++ [nI d] = (x.1 ++ [d]).map nI by rw [List.map_append]; rfl]
      rfl
theorem b8_in (k : Nat) {kk nn bb : D} {rws : W} {ds : List Dd} {x : Rw} {found : List Rw} {e5 e6 e7 : E0} {h : List O} (sm : Sm ds) (hx : x.1.length ≤ 1000 ∧ x.2.1.length ≤ 99000 ∧ x.2.2.length ≤ 99000) (hf : found.length + ds.length < 10000000) :
    ∃ e5' e6' e7', B8_2 (callF fns (k + 2)) ⟨[.w (.d (prD kk nn bb ds)), .w rws, .own (.lst (found.map rwW)), .w (.d (rwD x.1)), .w (.d (eD x.2)), e5, e6, e7], h⟩ = .nx ⟨[.w (.d (prD kk nn bb ds)), .w rws, .own (.lst ((found ++ nx1 ds x).map rwW)), .w (.d (rwD x.1)), .w (.d (eD x.2)), e5', e6', e7'], h⟩ := by
  obtain ⟨s', L, e5', e6', e7', rfl⟩ := forL_inv (k := none) (g := tgT [tgV 5, tgV 6]) (p := B8_1 (callF fns (k + 2))) (I := fun m s => ∃ e5 e6 e7, s = ⟨[.w (.d (prD kk nn bb ds)), .w rws, .own (.lst ((found ++ (List.range m).flatMap (one ds x)).map rwW)), .w (.d (rwD x.1)), .w (.d (eD x.2)), e5, e6, e7], h⟩)
    (enumL 0 ((ds.map dD).map W.d)) 0 (fun _ _ _ => rfl) (fun m s w hw hI => by
      obtain ⟨e5, e6, e7, rfl⟩ := hI
      have hm := (List.getElem?_eq_some_iff.mp hw).1
      rw [enumL_ln, List.length_map, List.length_map] at hm
      rw [enumL_at, List.getElem?_map] at hw
      obtain ⟨nm, ee, g1, g2, g3⟩ := ds_get hm
      rw [g1, Nat.zero_add] at hw
      cases hw
      rw [Nat.zero_add]
      have fl := flat_le (ds := ds) (x := x) m
      obtain ⟨e7', T⟩ := b8_turn k (prog := .d (prD kk nn bb ds)) (rws := rws) (d := m) (nm := nm) (found := found ++ (List.range m).flatMap (one ds x)) (e7 := e7) (h := h) sm hm (by rw [g2]; exact g3) hx (by rw [List.length_append]; omega)
      rw [g2] at T
      refine ⟨_, _, rfl, T, .w (.d (nI m)), .w (.d (dD (nm, ee))), e7', ?_⟩
      rw [range_flat, List.append_assoc]) (s := ⟨[.w (.d (prD kk nn bb ds)), .w rws, .own (.lst (found.map rwW)), .w (.d (rwD x.1)), .w (.d (eD x.2)), e5, e6, e7], h⟩) ⟨e5, e6, e7, by simp⟩
  refine ⟨e5', e6', e7', ?_⟩
  rw [enumL_ln, List.length_map, List.length_map, Nat.zero_add] at L
  have it : itEnum (op2 ixV (vE 0) (kE (.int 1))) ⟨[.w (.d (prD kk nn bb ds)), .w rws, .own (.lst (found.map rwW)), .w (.d (rwD x.1)), .w (.d (eD x.2)), e5, e6, e7], h⟩ = .ok ⟨enumL 0 ((ds.map dD).map W.d), none⟩ ⟨[.w (.d (prD kk nn bb ds)), .w rws, .own (.lst (found.map rwW)), .w (.d (rwD x.1)), .w (.d (eD x.2)), e5, e6, e7], h⟩ := itEnum_tup (op2_ev rfl rfl rfl)
  exact for_ev it L
theorem longer_sp (k : Nat) (kk nn bb : D) (ds : List Dd) (rows : List Rw) {l j : Nat} {h : List O} (sm : Sm ds) (fit : Fit l rows) (hl : l ≤ 900) (hn : (rows.length + 1) * (ds.length + 1) < 10000000) (hj : h[j]? = some (.lst (rows.map rwW))) :
    callF fns (k + 3) 8 [.d (prD kk nn bb ds), .ref j] h = .ok (.new (.lst ((nxt ds rows).map rwW))) h := by
  obtain ⟨s', L, e3, e4, e5', e6', e7', rfl⟩ := forL_inv (k := some (j, .lst (rows.map rwW))) (g := tgT [tgV 3, tgV 4]) (p := B8_2 (callF fns (k + 2))) (I := fun m s => ∃ e3 e4 e5 e6 e7, s = ⟨[.w (.d (prD kk nn bb ds)), .w (.ref j), .own (.lst (((rows.take m).flatMap (nx1 ds)).map rwW)), e3, e4, e5, e6, e7], h⟩)
    (rows.map rwW) 0 (fun _ s hs => by obtain ⟨_, _, _, _, _, rfl⟩ := hs; exact decide_eq_true hj) (fun m s w hw hI => by
      obtain ⟨e3, e4, e5, e6, e7, rfl⟩ := hI
      rw [Nat.zero_add]
      have hm := (List.getElem?_eq_some_iff.mp hw).1
      rw [List.length_map] at hm
      have hx : rows[m]? = some rows[m] := List.getElem?_eq_getElem hm
      rw [List.getElem?_map, hx] at hw
      cases hw
      have fx := fit _ (List.getElem_mem hm)
      have fl := nxt_le (ds := ds) (rows.take m)
      have l2 : (rows.take m).length * ds.length ≤ rows.length * ds.length := Nat.mul_le_mul_right _ (by rw [List.length_take]; omega)
      have l3 : rows.length * ds.length + ds.length ≤ (rows.length + 1) * (ds.length + 1) := by rw [Nat.succ_mul, Nat.mul_succ]; omega
      obtain ⟨e5', e6', e7', T⟩ := b8_in k (kk := kk) (nn := nn) (bb := bb) (rws := .ref j) (ds := ds) (x := rows[m]) (found := (rows.take m).flatMap (nx1 ds)) (e5 := e5) (e6 := e6) (e7 := e7) (h := h) sm ⟨by omega, by omega, by omega⟩ (by
        show (nxt ds (rows.take m)).length + ds.length < 10000000
        omega)
      refine ⟨_, _, rfl, T, .w (.d (rwD rows[m].1)), .w (.d (eD rows[m].2)), e5', e6', e7', ?_⟩
      rw [take_flat _ hx]) (s := ⟨[.w (.d (prD kk nn bb ds)), .w (.ref j), .own (.lst []), .un, .un, .un, .un, .un], h⟩) ⟨.un, .un, .un, .un, .un, by simp⟩
  rw [List.length_map, Nat.zero_add, List.take_length] at L
  apply call_ex (B := B8) (ρ := [.w (.d (prD kk nn bb ds)), .w (.ref j), .un, .un, .un, .un, .un, .un]) rfl rfl rfl
  have it : itE (vE 1) ⟨[.w (.d (prD kk nn bb ds)), .w (.ref j), .own (.lst []), .un, .un, .un, .un, .un], h⟩ = .ok ⟨rows.map rwW, some (j, .lst (rows.map rwW))⟩ ⟨[.w (.d (prD kk nn bb ds)), .w (.ref j), .own (.lst []), .un, .un, .un, .un, .un], h⟩ := by
    refine itE_ev rfl ?_
    unfold itR
    rw [seq_ref (s := ⟨_, h⟩) hj]
    rfl
  generalize callF fns (k + 2) = call at *
  apply ex2
  · unfold B8
    apply seq_nx
    · array_get_dec
    apply seq_nx
    · exact for_ev it L
    · array_get_dec
  · rfl
end HeadT

set_option linter.all false
set_option maxRecDepth 100000
set_option maxHeartbeats 1000000
namespace HeadT
open Mn
-- MAC
local macro_rules
  | `(tactic| sizeOf_list_dec) => `(tactic| first | exact rfl | with_reducible assumption | exact decide_eq_true (by omega) | exact decide_eq_false (by omega) | (rw [Bool.not_eq_true']; exact decide_eq_false (by omega)) | (rw [Bool.not_eq_false']; exact decide_eq_true (by omega)) | (simp (config := { decide := true }) only [*, decide_true, decide_false, Bool.not_true, Bool.not_false]; done))
local macro_rules
  | `(tactic| array_mem_dec) => `(tactic| first
    | with_reducible exact len_map
    | with_reducible exact slV_take
    | with_reducible exact slV_drop
    | ((with_reducible apply slV_takez); omega)
    | ((with_reducible apply slV_dropz); omega)
    | ((with_reducible apply add_map); (try simp only [List.length_take, List.length_drop, List.length_append, List.length_cons, List.length_nil]); omega)
    | with_reducible exact eqV_pile
    | with_reducible exact neV_pile
    | with_reducible exact eqV_eff
    | ((with_reducible apply mul_v); omega)
    | ((with_reducible apply mul_one); omega)
    | ((with_reducible apply mul_tup); omega)
    | with_reducible exact tup_map
    | with_reducible exact eqV_int
    | with_reducible exact neV_int
    | ((with_reducible apply ins_slot); exact rfl; ((show (_ : Nat) < 16777216); (try simp only [List.length_map, List.length_append, List.length_cons, List.length_nil]); omega); omega; omega)
    | ((with_reducible apply str_v); assumption)
    | ((with_reducible apply isi_ref); assumption)
    | ((with_reducible apply add_tup); (try simp only [List.length_map, List.length_append, List.length_replicate, List.length_cons, List.length_nil]); omega)
    | ((with_reducible apply mod_v); omega)
    | ((with_reducible apply div_v) <;> omega)
    | ((with_reducible apply app_slot); exact rfl; (show (_ : Nat) < 16777216); (try simp only [List.length_map, List.length_append, List.length_cons, List.length_nil]); omega)
    | ((with_reducible apply pop_slot); exact rfl; omega; omega; first | assumption | exact rfl)
    | ((with_reducible apply putz_own); exact rfl; omega; (try simp only [List.length_set, List.length_map, List.length_append, List.length_replicate, List.length_cons, List.length_nil]); omega)
    | ((with_reducible apply putz_ref); assumption; omega; (try simp only [List.length_set, List.length_map, List.length_append, List.length_replicate, List.length_cons, List.length_nil]); omega)
    | ((with_reducible apply ixz_own); exact rfl; omega; first | assumption | exact rfl)
    | ((with_reducible apply ixz_tup); omega; first | assumption | exact rfl)
    | ((with_reducible apply ixz_ref); assumption; omega; first | assumption | exact rfl)
    | exact rfl
    | assumption)
local macro_rules
  | `(tactic| array_get_dec) => `(tactic| first
    | with_reducible exact kE_ev
    | ((with_reducible apply vE_w); exact rfl)
    | ((with_reducible apply vE_o); exact rfl)
    | ((with_reducible apply op2_ev); array_get_dec; array_get_dec; array_mem_dec)
    | ((with_reducible apply op1_ev); array_get_dec; array_mem_dec)
    | with_reducible exact asN_ev
    | ((with_reducible apply asC_ev); array_get_dec; array_get_dec)
    | ((with_reducible apply tupD_ev); array_get_dec; exact rfl; exact rfl; (show (_ : Nat) ≤ 16777216); simp)
    | ((with_reducible apply tup_ev); array_get_dec; exact rfl; (show (_ : Nat) ≤ 16777216); simp)
    | ((with_reducible apply lst_ev); array_get_dec; exact rfl; (show (_ : Nat) ≤ 16777216); simp)
    | ((with_reducible apply callH_ev); array_get_dec; exact rfl; first | (apply callV_p; exact rfl; assumption; exact rfl) | (apply callV_q; exact rfl; assumption))
    | ((with_reducible apply callE_q); array_get_dec; exact rfl; assumption)
    | ((with_reducible apply meth_ev); array_get_dec; (first | exact rfl | exact isl_ref (by assumption)); array_get_dec; array_mem_dec)
    | ((with_reducible apply tst_eq); array_get_dec; array_mem_dec; first | exact rfl | sizeOf_list_dec)
    | ((with_reducible apply notT_eq); array_get_dec; first | exact rfl | sizeOf_list_dec)
    | ((with_reducible apply and_c); array_get_dec; first | (left; refine ⟨?_, ?_⟩; sizeOf_list_dec; array_get_dec) | (right; refine ⟨?_, ?_⟩; sizeOf_list_dec; exact rfl))
    | ((with_reducible apply or_c); array_get_dec; first | (left; refine ⟨?_, ?_⟩; sizeOf_list_dec; exact rfl) | (right; refine ⟨?_, ?_⟩; sizeOf_list_dec; array_get_dec))
    | ((with_reducible apply andE_c); array_get_dec; array_mem_dec; first | (left; refine ⟨?_, ?_⟩; sizeOf_list_dec; array_get_dec) | (right; refine ⟨?_, ?_⟩; sizeOf_list_dec; exact rfl))
    | ((with_reducible apply orE_c); array_get_dec; array_mem_dec; first | (left; refine ⟨?_, ?_⟩; sizeOf_list_dec; exact rfl) | (right; refine ⟨?_, ?_⟩; sizeOf_list_dec; array_get_dec))
    | ((with_reducible apply chE_t); array_get_dec; array_get_dec; array_mem_dec; array_get_dec; array_mem_dec)
    | ((with_reducible apply chE_f); array_get_dec; array_get_dec; array_mem_dec)
    | ((with_reducible apply ite_c); array_get_dec; first | (left; refine ⟨?_, ?_⟩; sizeOf_list_dec; array_get_dec) | (right; refine ⟨?_, ?_⟩; sizeOf_list_dec; array_get_dec))
    | ((with_reducible apply lc_ev); array_get_dec; assumption)
    | ((with_reducible apply sl_ev); array_get_dec; array_get_dec; array_get_dec; array_mem_dec)
    | with_reducible exact no_ev
    | ((with_reducible apply some_ev); array_get_dec)
    | ((with_reducible apply itR1_z); array_get_dec; omega; omega)
    | ((with_reducible apply itE_ev); array_get_dec; exact rfl)
    | with_reducible exact nx_ev
    | ((with_reducible apply seq_nx); array_get_dec; array_get_dec)
    | ((with_reducible apply seq_rt); array_get_dec)
    | ((with_reducible apply if_c); array_get_dec; first | (left; refine ⟨?_, ?_⟩; sizeOf_list_dec; array_get_dec) | (right; refine ⟨?_, ?_⟩; sizeOf_list_dec; array_get_dec))
    | ((with_reducible apply ret_ev); array_get_dec)
    | ((with_reducible apply set_ev); array_get_dec; exact rfl)
    | ((with_reducible apply expr_ev); array_get_dec)
    | ((with_reducible apply unp_ev); array_get_dec; exact rfl)
    | ((with_reducible apply par_ev); array_get_dec; exact rfl; exact rfl; exact rfl)
    | ((with_reducible apply for_ev); array_get_dec; assumption)
    | ((with_reducible apply put_ev); array_get_dec; array_get_dec; array_get_dec; exact rfl; array_mem_dec))
-- ENDMAC
abbrev iW (v : Nat) : W := .d (.int (v : Int))
/-- the first row with an effect -/
def fnd (e : Eff) : List Rw → Option (List Nat)
  | [] => none
  | x :: r => if isX e x.2 then some x.1 else fnd e r
def sr (ds : List Dd) (e : Eff) : Nat → List Rw → Option (List Nat)
  | 0, rows => fnd e rows
  | n + 1, rows => match fnd e rows with
    | some r => some r
    | none => sr ds e n (nxt ds rows)
theorem sr_some {ds : List Dd} {e : Eff} {n : Nat} {rows : List Rw} {r : List Nat} (h : fnd e rows = some r) : sr ds e n rows = some r := by
  cases n with
  | zero => exact h
  | succ n => unfold sr; rw [h]
def oR : Option (List Nat) → D
  | none => .non
  | some r => rwD r
theorem b9_find (k : Nat) {prog w2 : W} {e : Eff} {e3 e4 : E0} {h : List O} {kp : Option (Nat × O)} (hk : ∀ ρ, kept ⟨ρ, h⟩ kp = true) (he : e.1.length ≤ 100000 ∧ e.2.length ≤ 100000) : ∀ (rows : List Rw) (e5 e6 : E0), (∀ x ∈ rows, x.2.1.length ≤ 100000 ∧ x.2.2.length ≤ 100000) →
    (∃ r st, fnd e rows = some r ∧ forL kp (tgT [tgV 5, tgV 6]) (B9_1 (callF fns (k + 1))) (rows.map rwW) ⟨[.w prog, .w (.d (eD e)), .w w2, e3, e4, e5, e6], h⟩ = .rt (.w (.d (rwD r))) st) ∨
    (fnd e rows = none ∧ ∃ e5' e6', forL kp (tgT [tgV 5, tgV 6]) (B9_1 (callF fns (k + 1))) (rows.map rwW) ⟨[.w prog, .w (.d (eD e)), .w w2, e3, e4, e5, e6], h⟩ = .nx ⟨[.w prog, .w (.d (eD e)), .w w2, e3, e4, e5', e6'], h⟩)
  | [], e5, e6, _ => .inr ⟨rfl, e5, e6, forL_nil (hk _)⟩
  | x :: rows, e5, e6, hx => by
    have h1 := hx x List.mem_cons_self
    obtain ⟨hz, C⟩ := isx_sp k e x.2 he h1
    unfold fnd
    cases q : isX e x.2 with
    | true =>
      rw [q] at C
      rw [if_pos rfl]
      refine .inl ⟨x.1, _, rfl, forL_rt (s1 := ⟨[.w prog, .w (.d (eD e)), .w w2, e3, e4, .w (.d (rwD x.1)), .w (.d (eD x.2))], h⟩) (s2 := ⟨[.w prog, .w (.d (eD e)), .w w2, e3, e4, .w (.d (rwD x.1)), .w (.d (eD x.2))], h⟩) (hk _) rfl ?_⟩
      generalize callF fns (k + 1) = call at *
      apply rt_as
      · unfold B9_1
        array_get_dec
      · rfl
      · rfl
    | false =>
      rw [q] at C
      rw [if_neg (by decide)]
      have T : B9_1 (callF fns (k + 1)) ⟨[.w prog, .w (.d (eD e)), .w w2, e3, e4, .w (.d (rwD x.1)), .w (.d (eD x.2))], h⟩ = .nx ⟨[.w prog, .w (.d (eD e)), .w w2, e3, e4, .w (.d (rwD x.1)), .w (.d (eD x.2))], h⟩ := by
        generalize callF fns (k + 1) = call at *
        unfold B9_1
        array_get_dec
      rcases b9_find k hk he rows (.w (.d (rwD x.1))) (.w (.d (eD x.2))) (fun y hy => hx y (List.mem_cons_of_mem _ hy)) with ⟨r, st, f1, L⟩ | ⟨f1, e5', e6', L⟩
      · exact .inl ⟨r, st, f1, forL_cons (hk _) rfl T L⟩
      · exact .inr ⟨f1, e5', e6', forL_cons (hk _) rfl T L⟩
def Cap (ds : List Dd) (n : Nat) (rows : List Rw) : Prop := rows.length * (ds.length + 1) ^ n ≤ 1000000
theorem cap_nxt {ds : List Dd} {n : Nat} {rows : List Rw} (h : Cap ds (n + 1) rows) : Cap ds n (nxt ds rows) ∧ (rows.length + 1) * (ds.length + 1) ≤ 1000000 + (ds.length + 1) := by
  unfold Cap at *
  have h1 := nxt_le (ds := ds) rows
  have h2 : (ds.length + 1) ^ (n + 1) = (ds.length + 1) ^ n * (ds.length + 1) := Nat.pow_succ ..
  have h3 : 1 ≤ (ds.length + 1) ^ n := Nat.one_le_pow _ _ (by omega)
  rw [h2] at h
  constructor
  · refine Nat.le_trans (Nat.mul_le_mul_right _ (Nat.le_trans h1 (Nat.mul_le_mul_left _ (Nat.le_succ _)))) ?_
    rw [Nat.mul_assoc, Nat.mul_comm (ds.length + 1)]
    exact h
  · rw [Nat.succ_mul]
    have : rows.length * (ds.length + 1) ≤ rows.length * ((ds.length + 1) ^ n * (ds.length + 1)) := Nat.mul_le_mul_left _ (Nat.le_mul_of_pos_left _ h3)
    omega
theorem b9_lap (k : Nat) {kk nn bb : D} {ds : List Dd} {e : Eff} {most : Nat} (sm : Sm ds) (hd : ds.length < 1000) (he : e.1.length ≤ 100000 ∧ e.2.length ≤ 100000) : ∀ (n l : Nat) (rows : List Rw) (e4 e5 e6 : E0) (h : List O), l + n = most → l + n ≤ 900 → Fit l rows → Cap ds n rows →
    (∃ r st, sr ds e n rows = some r ∧ forL none (tgV 4) (B9_2 (callF fns (k + 3))) ((List.range' l (n + 1)).map iW) ⟨[.w (.d (prD kk nn bb ds)), .w (.d (eD e)), .w (iW most), .own (.lst (rows.map rwW)), e4, e5, e6], h⟩ = .rt (.w (.d (rwD r))) st) ∨
    (sr ds e n rows = none ∧ ∃ st, forL none (tgV 4) (B9_2 (callF fns (k + 3))) ((List.range' l (n + 1)).map iW) ⟨[.w (.d (prD kk nn bb ds)), .w (.d (eD e)), .w (iW most), .own (.lst (rows.map rwW)), e4, e5, e6], h⟩ = .nx st)  := by
  intro n
  induction n with
  | zero =>
    intro l rows e4 e5 e6 h hl hb fit cap
    have fx : ∀ x ∈ rows, x.2.1.length ≤ 100000 ∧ x.2.2.length ≤ 100000 := fun x hx => by have := fit x hx; omega
    have r' : (List.range' l (0 + 1)).map iW = iW l :: (List.range' (l + 1) 0).map iW := by rw [List.range'_succ]; rfl
    rw [r']
    rcases b9_find (k + 2) (prog := .d (prD kk nn bb ds)) (w2 := iW most) (e := e) (e3 := .w (.ref h.length)) (e4 := .w (iW l)) (h := h ++ [.lst (rows.map rwW)]) (kp := some (h.length, .lst (rows.map rwW))) (fun ρ => decide_eq_true (by simp)) he rows e5 e6 fx with ⟨r, st, f1, L⟩ | ⟨f1, e5', e6', L⟩
    · refine .inl ⟨r, st, sr_some f1, forL_rt rfl rfl ?_⟩
      unfold B9_2
      exact seq_rt (for_ev rfl L)
    · refine .inr ⟨f1, _, forL_cons (s2 := ⟨[.w (.d (prD kk nn bb ds)), .w (.d (eD e)), .w (iW most), .w (.ref h.length), .w (iW l), e5', e6'], h ++ [.lst (rows.map rwW)]⟩) rfl rfl ?_ (forL_nil rfl)⟩
      unfold B9_2
      refine seq_nx (for_ev rfl L) ?_
      array_get_dec
  | succ n ih =>
    intro l rows e4 e5 e6 h hl hb fit cap
    have fx : ∀ x ∈ rows, x.2.1.length ≤ 100000 ∧ x.2.2.length ≤ 100000 := fun x hx => by have := fit x hx; omega
    have r' : (List.range' l (n + 1 + 1)).map iW = iW l :: (List.range' (l + 1) (n + 1)).map iW := by rw [List.range'_succ]; rfl
    rw [r']
    rcases b9_find (k + 2) (prog := .d (prD kk nn bb ds)) (w2 := iW most) (e := e) (e3 := .w (.ref h.length)) (e4 := .w (iW l)) (h := h ++ [.lst (rows.map rwW)]) (kp := some (h.length, .lst (rows.map rwW))) (fun ρ => decide_eq_true (by simp)) he rows e5 e6 fx with ⟨r, st, f1, L⟩ | ⟨f1, e5', e6', L⟩
    · refine .inl ⟨r, st, sr_some f1, forL_rt rfl rfl ?_⟩
      unfold B9_2
      exact seq_rt (for_ev rfl L)
    · obtain ⟨c1, c2⟩ := cap_nxt cap
      have C := longer_sp k kk nn bb ds rows (l := l) (j := h.length) (h := h ++ [.lst (rows.map rwW)]) sm fit (by omega) (by omega) (by simp)
      have T : B9_2 (callF fns (k + 3)) ⟨[.w (.d (prD kk nn bb ds)), .w (.d (eD e)), .w (iW most), .own (.lst (rows.map rwW)), .w (iW l), e5, e6], h⟩ = .nx ⟨[.w (.d (prD kk nn bb ds)), .w (.d (eD e)), .w (iW most), .own (.lst ((nxt ds rows).map rwW)), .w (iW l), e5', e6'], h ++ [.lst (rows.map rwW)]⟩ := by
        unfold B9_2
        refine seq_nx (for_ev rfl L) ?_
        clear L
        generalize callF fns (k + 3) = call at *
        apply nx_as
        · array_get_dec
        · rfl
      have es : sr ds e (n + 1) rows = sr ds e n (nxt ds rows) := by
        conv => lhs; unfold sr
        rw [f1]
      rw [es]
      rcases ih (l + 1) (nxt ds rows) (.w (iW l)) e5' e6' (h ++ [.lst (rows.map rwW)]) (by omega) (by omega) (fit_nxt sm fit) c1 with ⟨r, st, g1, L2⟩ | ⟨g1, st, L2⟩
      · exact .inl ⟨r, st, g1, forL_cons rfl rfl T L2⟩
      · exact .inr ⟨g1, st, forL_cons rfl rfl T L2⟩
def r0 : List Rw := [([], e0)]
theorem fit0 : Fit 0 r0 := fun x hx => by
  cases List.mem_singleton.mp hx
  exact ⟨Nat.le_refl _, Nat.le_refl _, Nat.le_refl _⟩
theorem range'_0 (n : Nat) : List.range n = List.range' 0 n := List.range_eq_range'
theorem shortest_sp (k : Nat) (kk nn bb : D) (ds : List Dd) (e : Eff) (most : Nat) (sm : Sm ds) (hd : ds.length < 1000) (he : e.1.length ≤ 100000 ∧ e.2.length ≤ 100000) (hm : most ≤ 900) (cap : (ds.length + 1) ^ most ≤ 1000000) :
    ∃ h, callF fns (k + 4) 9 [.d (prD kk nn bb ds), .d (eD e), .d (.int most)] [] = .ok (.w (.d (oR (sr ds e most r0)))) h := by
  have M := b9_lap k (kk := kk) (nn := nn) (bb := bb) (ds := ds) (e := e) (most := most) sm hd he most 0 r0 .un .un .un [] (by omega) (by omega) fit0 (by unfold Cap; simpa [r0] using cap)
  rw [← range'_0] at M
  rcases M with ⟨r, st, s1, L⟩ | ⟨s1, st, L⟩
  · rw [s1]
    refine ⟨st.h, ?_⟩
    apply call_ex (B := B9) (ρ := [.w (.d (prD kk nn bb ds)), .w (.d (eD e)), .w (iW most), .un, .un, .un, .un]) rfl rfl rfl
    refine ⟨.w (.d (rwD r)), st, ?_, rfl⟩
    unfold B9
    refine seq_nx (s1 := ⟨[.w (.d (prD kk nn bb ds)), .w (.d (eD e)), .w (iW most), .own (.lst (r0.map rwW)), .un, .un, .un], []⟩) rfl (seq_rt (for_ev (itR1_z (m := (most : Int) + 1) rfl (by omega) (by omega)) ?_))
    rw [show ((most : Int) + 1).toNat = most + 1 by omega]
    exact L
  · rw [s1]
    refine ⟨st.h, ?_⟩
    apply call_ex (B := B9) (ρ := [.w (.d (prD kk nn bb ds)), .w (.d (eD e)), .w (iW most), .un, .un, .un, .un]) rfl rfl rfl
    refine ⟨.w (.d .non), st, ?_, rfl⟩
    unfold B9
    refine seq_nx (s1 := ⟨[.w (.d (prD kk nn bb ds)), .w (.d (eD e)), .w (iW most), .own (.lst (r0.map rwW)), .un, .un, .un], []⟩) rfl (seq_nx (s1 := st) (for_ev (itR1_z (m := (most : Int) + 1) rfl (by omega) (by omega)) ?_) rfl)
    rw [show ((most : Int) + 1).toNat = most + 1 by omega]
    exact L
end HeadT

set_option linter.all false
set_option maxRecDepth 100000
set_option maxHeartbeats 1000000
namespace HeadT
open Mn
-- MAC
local macro_rules
  | `(tactic| sizeOf_list_dec) => `(tactic| first | exact rfl | with_reducible assumption | exact decide_eq_true (by omega) | exact decide_eq_false (by omega) | (rw [Bool.not_eq_true']; exact decide_eq_false (by omega)) | (rw [Bool.not_eq_false']; exact decide_eq_true (by omega)) | (simp (config := { decide := true }) only [*, decide_true, decide_false, Bool.not_true, Bool.not_false]; done))
local macro_rules
  | `(tactic| array_mem_dec) => `(tactic| first
    | with_reducible exact len_map
    | with_reducible exact slV_take
    | with_reducible exact slV_drop
    | ((with_reducible apply slV_takez); omega)
    | ((with_reducible apply slV_dropz); omega)
    | ((with_reducible apply add_map); (try simp only [List.length_take, List.length_drop, List.length_append, List.length_cons, List.length_nil]); omega)
    | with_reducible exact eqV_pile
    | with_reducible exact neV_pile
    | with_reducible exact eqV_eff
    | ((with_reducible apply mul_v); omega)
    | ((with_reducible apply mul_one); omega)
    | ((with_reducible apply mul_tup); omega)
    | with_reducible exact tup_map
    | with_reducible exact eqV_int
    | with_reducible exact neV_int
    | ((with_reducible apply ins_slot); exact rfl; ((show (_ : Nat) < 16777216); (try simp only [List.length_map, List.length_append, List.length_cons, List.length_nil]); omega); omega; omega)
    | ((with_reducible apply str_v); assumption)
    | ((with_reducible apply isi_ref); assumption)
    | ((with_reducible apply add_tup); (try simp only [List.length_map, List.length_append, List.length_replicate, List.length_cons, List.length_nil]); omega)
    | ((with_reducible apply mod_v); omega)
    | ((with_reducible apply div_v) <;> omega)
    | ((with_reducible apply app_slot); exact rfl; (show (_ : Nat) < 16777216); (try simp only [List.length_map, List.length_append, List.length_cons, List.length_nil]); omega)
    | ((with_reducible apply pop_slot); exact rfl; omega; omega; first | assumption | exact rfl)
    | ((with_reducible apply putz_own); exact rfl; omega; (try simp only [List.length_set, List.length_map, List.length_append, List.length_replicate, List.length_cons, List.length_nil]); omega)
    | ((with_reducible apply putz_ref); assumption; omega; (try simp only [List.length_set, List.length_map, List.length_append, List.length_replicate, List.length_cons, List.length_nil]); omega)
    | ((with_reducible apply ixz_own); exact rfl; omega; first | assumption | exact rfl)
    | ((with_reducible apply ixz_tup); omega; first | assumption | exact rfl)
    | ((with_reducible apply ixz_ref); assumption; omega; first | assumption | exact rfl)
    | exact rfl
    | assumption)
local macro_rules
  | `(tactic| array_get_dec) => `(tactic| first
    | with_reducible exact kE_ev
    | ((with_reducible apply vE_w); exact rfl)
    | ((with_reducible apply vE_o); exact rfl)
    | ((with_reducible apply op2_ev); array_get_dec; array_get_dec; array_mem_dec)
    | ((with_reducible apply op1_ev); array_get_dec; array_mem_dec)
    | with_reducible exact asN_ev
    | ((with_reducible apply asC_ev); array_get_dec; array_get_dec)
    | ((with_reducible apply tupD_ev); array_get_dec; exact rfl; exact rfl; (show (_ : Nat) ≤ 16777216); simp)
    | ((with_reducible apply tup_ev); array_get_dec; exact rfl; (show (_ : Nat) ≤ 16777216); simp)
    | ((with_reducible apply lst_ev); array_get_dec; exact rfl; (show (_ : Nat) ≤ 16777216); simp)
    | ((with_reducible apply callH_ev); array_get_dec; exact rfl; first | (apply callV_p; exact rfl; assumption; exact rfl) | (apply callV_q; exact rfl; assumption))
    | ((with_reducible apply callE_q); array_get_dec; exact rfl; assumption)
    | ((with_reducible apply meth_ev); array_get_dec; (first | exact rfl | exact isl_ref (by assumption)); array_get_dec; array_mem_dec)
    | ((with_reducible apply tst_eq); array_get_dec; array_mem_dec; first | exact rfl | sizeOf_list_dec)
    | ((with_reducible apply notT_eq); array_get_dec; first | exact rfl | sizeOf_list_dec)
    | ((with_reducible apply and_c); array_get_dec; first | (left; refine ⟨?_, ?_⟩; sizeOf_list_dec; array_get_dec) | (right; refine ⟨?_, ?_⟩; sizeOf_list_dec; exact rfl))
    | ((with_reducible apply or_c); array_get_dec; first | (left; refine ⟨?_, ?_⟩; sizeOf_list_dec; exact rfl) | (right; refine ⟨?_, ?_⟩; sizeOf_list_dec; array_get_dec))
    | ((with_reducible apply andE_c); array_get_dec; array_mem_dec; first | (left; refine ⟨?_, ?_⟩; sizeOf_list_dec; array_get_dec) | (right; refine ⟨?_, ?_⟩; sizeOf_list_dec; exact rfl))
    | ((with_reducible apply orE_c); array_get_dec; array_mem_dec; first | (left; refine ⟨?_, ?_⟩; sizeOf_list_dec; exact rfl) | (right; refine ⟨?_, ?_⟩; sizeOf_list_dec; array_get_dec))
    | ((with_reducible apply chE_t); array_get_dec; array_get_dec; array_mem_dec; array_get_dec; array_mem_dec)
    | ((with_reducible apply chE_f); array_get_dec; array_get_dec; array_mem_dec)
    | ((with_reducible apply ite_c); array_get_dec; first | (left; refine ⟨?_, ?_⟩; sizeOf_list_dec; array_get_dec) | (right; refine ⟨?_, ?_⟩; sizeOf_list_dec; array_get_dec))
    | ((with_reducible apply lc_ev); array_get_dec; assumption)
    | ((with_reducible apply sl_ev); array_get_dec; array_get_dec; array_get_dec; array_mem_dec)
    | with_reducible exact no_ev
    | ((with_reducible apply some_ev); array_get_dec)
    | ((with_reducible apply itR1_z); array_get_dec; omega; omega)
    | ((with_reducible apply itE_ev); array_get_dec; exact rfl)
    | with_reducible exact nx_ev
    | ((with_reducible apply seq_nx); array_get_dec; array_get_dec)
    | ((with_reducible apply seq_rt); array_get_dec)
    | ((with_reducible apply if_c); array_get_dec; first | (left; refine ⟨?_, ?_⟩; sizeOf_list_dec; array_get_dec) | (right; refine ⟨?_, ?_⟩; sizeOf_list_dec; array_get_dec))
    | ((with_reducible apply ret_ev); array_get_dec)
    | ((with_reducible apply set_ev); array_get_dec; exact rfl)
    | ((with_reducible apply expr_ev); array_get_dec)
    | ((with_reducible apply unp_ev); array_get_dec; exact rfl)
    | ((with_reducible apply par_ev); array_get_dec; exact rfl; exact rfl; exact rfl)
    | ((with_reducible apply for_ev); array_get_dec; assumption)
    | ((with_reducible apply put_ev); array_get_dec; array_get_dec; array_get_dec; exact rfl; array_mem_dec))
-- ENDMAC
theorem b53_find (k : Nat) {ds : W} {w2 : W} {e : Eff} {e3 e4 e7 e8 e9 : E0} {h : List O} {kp : Option (Nat × O)} (hk : ∀ ρ, kept ⟨ρ, h⟩ kp = true) (he : e.1.length ≤ 100000 ∧ e.2.length ≤ 100000) : ∀ (rows : List Rw) (e5 e6 : E0), (∀ x ∈ rows, x.2.1.length ≤ 100000 ∧ x.2.2.length ≤ 100000) →
    (∃ r st, fnd e rows = some r ∧ forL kp (tgT [tgV 5, tgV 6]) (B53_1 (callF fns (k + 1))) (rows.map rwW) ⟨[.w ds, .w (.d (eD e)), .w w2, e3, e4, e5, e6, e7, e8, e9], h⟩ = .rt (.w (.d (rwD r))) st) ∨
    (fnd e rows = none ∧ ∃ e5' e6', forL kp (tgT [tgV 5, tgV 6]) (B53_1 (callF fns (k + 1))) (rows.map rwW) ⟨[.w ds, .w (.d (eD e)), .w w2, e3, e4, e5, e6, e7, e8, e9], h⟩ = .nx ⟨[.w ds, .w (.d (eD e)), .w w2, e3, e4, e5', e6', e7, e8, e9], h⟩)
  | [], e5, e6, _ => .inr ⟨rfl, e5, e6, forL_nil (hk _)⟩
  | x :: rows, e5, e6, hx => by
    have h1 := hx x List.mem_cons_self
    obtain ⟨hz, C⟩ := isfor_sp k (some x.2) e (fun a ha => by cases ha; exact h1) he
    have C : callF fns (k + 1) 52 [.d (eD x.2), .d (eD e)] [] = .ok (bR (isX e x.2)) hz := C
    unfold fnd
    cases q : isX e x.2 with
    | true =>
      rw [q] at C
      rw [if_pos rfl]
      refine .inl ⟨x.1, _, rfl, forL_rt (s1 := ⟨[.w ds, .w (.d (eD e)), .w w2, e3, e4, .w (.d (rwD x.1)), .w (.d (eD x.2)), e7, e8, e9], h⟩) (s2 := ⟨[.w ds, .w (.d (eD e)), .w w2, e3, e4, .w (.d (rwD x.1)), .w (.d (eD x.2)), e7, e8, e9], h⟩) (hk _) rfl ?_⟩
      generalize callF fns (k + 1) = call at *
      apply rt_as
      · unfold B53_1
        array_get_dec
      · rfl
      · rfl
    | false =>
      rw [q] at C
      rw [if_neg (by decide)]
      have T : B53_1 (callF fns (k + 1)) ⟨[.w ds, .w (.d (eD e)), .w w2, e3, e4, .w (.d (rwD x.1)), .w (.d (eD x.2)), e7, e8, e9], h⟩ = .nx ⟨[.w ds, .w (.d (eD e)), .w w2, e3, e4, .w (.d (rwD x.1)), .w (.d (eD x.2)), e7, e8, e9], h⟩ := by
        generalize callF fns (k + 1) = call at *
        unfold B53_1
        array_get_dec
      rcases b53_find k hk he rows (.w (.d (rwD x.1))) (.w (.d (eD x.2))) (fun y hy => hx y (List.mem_cons_of_mem _ hy)) with ⟨r, st, f1, L⟩ | ⟨f1, e5', e6', L⟩
      · exact .inl ⟨r, st, f1, forL_cons (hk _) rfl T L⟩
      · exact .inr ⟨f1, e5', e6', forL_cons (hk _) rfl T L⟩
theorem b53_turn (k : Nat) {w1 w2 : W} {e3 e4 : E0} {ds : List Dd} {x : Rw} {d : Nat} {found : List Rw} {e9 : E0} {h : List O} (sm : Sm ds) (hd : d < ds.length) (hx : x.1.length ≤ 1000 ∧ x.2.1.length ≤ 99000 ∧ x.2.2.length ≤ 99000) (hf : found.length < 10000000) :
    ∃ e9', B53_2 (callF fns (k + 1)) ⟨[.w (.d (dsD ds)), .w w1, .w w2, e3, e4, .w (.d (rwD x.1)), .w (.d (eD x.2)), .own (.lst (found.map rwW)), .w (iW d), e9], h⟩ = .nx ⟨[.w (.d (dsD ds)), .w w1, .w w2, e3, e4, .w (.d (rwD x.1)), .w (.d (eD x.2)), .own (.lst ((found ++ one ds x d).map rwW)), .w (iW d), e9'], h⟩ := by
  obtain ⟨nm, ee, g1, g2, g3⟩ := ds_get hd
  have s1 := sm _ g3
  simp only at s1
  obtain ⟨hz, C⟩ := ljoined_sp k x.2 ee ⟨by omega, by omega⟩ ⟨by omega, by omega⟩
  unfold one
  rw [g2]
  cases e : jn x.2 ee with
  | none =>
    rw [e] at C
    have C : callF fns (k + 1) 50 [.d (eD x.2), .d (eD ee)] [] = .ok (.w (.d .non)) hz := C
    refine ⟨.w (.d .non), ?_⟩
    generalize callF fns (k + 1) = call at *
    apply nx_as
    · unfold B53_2
      array_get_dec
    · rw [List.append_nil]; rfl
  | some t =>
    rw [e] at C
    have C : callF fns (k + 1) 50 [.d (eD x.2), .d (eD ee)] [] = .ok (.w (.d (eD t))) hz := C
    refine ⟨.w (.d (eD t)), ?_⟩
    generalize callF fns (k + 1) = call at *
    apply nx_as
    · unfold B53_2
      array_get_dec
    · rw [List.map_append]
      show (⟨_, h⟩ : Mn.S) = ⟨_, h⟩
      congr 1
      show [_, _, _, _, _, _, _, E0.own (.lst (found.map rwW ++ [.d (.tup [.tup (x.1.map nI ++ [nI d]), eD t])])), _, _] = _
      rw [show x.1.map nI ++ [nI d] = (x.1 ++ [d]).map nI by rw [List.map_append]; rfl]
      rfl
theorem b53_in (k : Nat) {w1 w2 : W} {e3 e4 : E0} {ds : List Dd} {x : Rw} {found : List Rw} {e8 e9 : E0} {h : List O} (sm : Sm ds) (hd : ds.length < 1000) (hx : x.1.length ≤ 1000 ∧ x.2.1.length ≤ 99000 ∧ x.2.2.length ≤ 99000) (hf : found.length + ds.length < 10000000) :
    ∃ e8' e9', B53_3 (callF fns (k + 1)) ⟨[.w (.d (dsD ds)), .w w1, .w w2, e3, e4, .w (.d (rwD x.1)), .w (.d (eD x.2)), .own (.lst (found.map rwW)), e8, e9], h⟩ = .nx ⟨[.w (.d (dsD ds)), .w w1, .w w2, e3, e4, .w (.d (rwD x.1)), .w (.d (eD x.2)), .own (.lst ((found ++ nx1 ds x).map rwW)), e8', e9'], h⟩ := by
  obtain ⟨s', L, e8', e9', rfl⟩ := forL_inv (k := none) (g := tgV 8) (p := B53_2 (callF fns (k + 1))) (I := fun m s => ∃ e8 e9, s = ⟨[.w (.d (dsD ds)), .w w1, .w w2, e3, e4, .w (.d (rwD x.1)), .w (.d (eD x.2)), .own (.lst ((found ++ (List.range m).flatMap (one ds x)).map rwW)), e8, e9], h⟩)
    ((List.range ds.length).map iW) 0 (fun _ _ _ => rfl) (fun m s w hw hI => by
      obtain ⟨e8, e9, rfl⟩ := hI
      have hm := (List.getElem?_eq_some_iff.mp hw).1
      rw [List.length_map, List.length_range] at hm
      rw [List.getElem?_map, List.getElem?_eq_getElem (by rw [List.length_range]; exact hm)] at hw
      have ew : w = iW m := by simpa using hw.symm
      subst ew
      rw [Nat.zero_add]
      have fl := flat_le (ds := ds) (x := x) m
      obtain ⟨e9', T⟩ := b53_turn k (w1 := w1) (w2 := w2) (e3 := e3) (e4 := e4) (x := x) (d := m) (found := found ++ (List.range m).flatMap (one ds x)) (e9 := e9) (h := h) sm hm hx (by rw [List.length_append]; omega)
      refine ⟨_, _, rfl, T, .w (iW m), e9', ?_⟩
      rw [range_flat, List.append_assoc]) (s := ⟨[.w (.d (dsD ds)), .w w1, .w w2, e3, e4, .w (.d (rwD x.1)), .w (.d (eD x.2)), .own (.lst (found.map rwW)), e8, e9], h⟩) ⟨e8, e9, by simp⟩
  refine ⟨e8', e9', ?_⟩
  rw [List.length_map, List.length_range, Nat.zero_add] at L
  unfold B53_3
  apply for_ev
  · array_get_dec
  · exact L
theorem b53_longer (k : Nat) {w1 w2 : W} {e3 e4 : E0} {ds : List Dd} {rows : List Rw} {l : Nat} {e5 e6 e8 e9 : E0} {h : List O} {kp : Option (Nat × O)} (hk : ∀ ρ, kept ⟨ρ, h⟩ kp = true) (sm : Sm ds) (hd : ds.length < 1000) (fit : Fit l rows) (hl : l ≤ 900) (hn : (rows.length + 1) * (ds.length + 1) < 10000000) :
    ∃ e5' e6' e8' e9', forL kp (tgT [tgV 5, tgV 6]) (B53_3 (callF fns (k + 1))) (rows.map rwW) ⟨[.w (.d (dsD ds)), .w w1, .w w2, e3, e4, e5, e6, .own (.lst []), e8, e9], h⟩ = .nx ⟨[.w (.d (dsD ds)), .w w1, .w w2, e3, e4, e5', e6', .own (.lst ((nxt ds rows).map rwW)), e8', e9'], h⟩ := by
  obtain ⟨s', L, e5', e6', e8', e9', rfl⟩ := forL_inv (k := kp) (g := tgT [tgV 5, tgV 6]) (p := B53_3 (callF fns (k + 1))) (I := fun m s => ∃ e5 e6 e8 e9, s = ⟨[.w (.d (dsD ds)), .w w1, .w w2, e3, e4, e5, e6, .own (.lst (((rows.take m).flatMap (nx1 ds)).map rwW)), e8, e9], h⟩)
    (rows.map rwW) 0 (fun _ s hs => by obtain ⟨_, _, _, _, rfl⟩ := hs; exact hk _) (fun m s w hw hI => by
      obtain ⟨e5, e6, e8, e9, rfl⟩ := hI
      rw [Nat.zero_add]
      have hm := (List.getElem?_eq_some_iff.mp hw).1
      rw [List.length_map] at hm
      have hx : rows[m]? = some rows[m] := List.getElem?_eq_getElem hm
      rw [List.getElem?_map, hx] at hw
      cases hw
      have fx := fit _ (List.getElem_mem hm)
      have fl := nxt_le (ds := ds) (rows.take m)
      have l2 : (rows.take m).length * ds.length ≤ rows.length * ds.length := Nat.mul_le_mul_right _ (by rw [List.length_take]; omega)
      have l3 : rows.length * ds.length + ds.length ≤ (rows.length + 1) * (ds.length + 1) := by rw [Nat.succ_mul, Nat.mul_succ]; omega
      obtain ⟨e8', e9', T⟩ := b53_in k (w1 := w1) (w2 := w2) (e3 := e3) (e4 := e4) (ds := ds) (x := rows[m]) (found := (rows.take m).flatMap (nx1 ds)) (e8 := e8) (e9 := e9) (h := h) sm hd ⟨by omega, by omega, by omega⟩ (by
        show (nxt ds (rows.take m)).length + ds.length < 10000000
        omega)
      refine ⟨_, _, rfl, T, .w (.d (rwD rows[m].1)), .w (.d (eD rows[m].2)), e8', e9', ?_⟩
      rw [take_flat _ hx]) (s := ⟨[.w (.d (dsD ds)), .w w1, .w w2, e3, e4, e5, e6, .own (.lst []), e8, e9], h⟩) ⟨e5, e6, e8, e9, by simp⟩
  rw [List.length_map, Nat.zero_add, List.take_length] at L
  exact ⟨e5', e6', e8', e9', L⟩
/-- rows stand in slot 3: its own, or a reference -/
def RowsAt (e3 : E0) (h : List O) (rows : List Rw) : Prop := e3 = .own (.lst (rows.map rwW)) ∨ ∃ j, e3 = .w (.ref j) ∧ h[j]? = some (.lst (rows.map rwW))
theorem it_rows {w0 w1 w2 : W} {e3 e4 e5 e6 e7 e8 e9 : E0} {h : List O} {rows : List Rw} (hr : RowsAt e3 h rows) : ∃ j h1, itE (vE 3) ⟨[.w w0, .w w1, .w w2, e3, e4, e5, e6, e7, e8, e9], h⟩ = .ok ⟨rows.map rwW, some (j, .lst (rows.map rwW))⟩ ⟨[.w w0, .w w1, .w w2, .w (.ref j), e4, e5, e6, e7, e8, e9], h1⟩ ∧ h1[j]? = some (.lst (rows.map rwW)) := by
  rcases hr with rfl | ⟨j, rfl, hj⟩
  · exact ⟨h.length, h ++ [.lst (rows.map rwW)], rfl, by simp⟩
  · refine ⟨j, h, itE_ev rfl ?_, hj⟩
    unfold itR
    rw [seq_ref (s := ⟨_, h⟩) hj]
    rfl
theorem b53_lap (k : Nat) {ds : List Dd} {e : Eff} {most : Nat} (sm : Sm ds) (hd : ds.length < 1000) (he : e.1.length ≤ 100000 ∧ e.2.length ≤ 100000) : ∀ (n l : Nat) (rows : List Rw) (e3 e4 e5 e6 e7 e8 e9 : E0) (h : List O), l + n = most → l + n ≤ 900 → Fit l rows → Cap ds n rows → RowsAt e3 h rows →
    (∃ r st, sr ds e n rows = some r ∧ forL none (tgV 4) (B53_4 (callF fns (k + 1))) ((List.range' l (n + 1)).map iW) ⟨[.w (.d (dsD ds)), .w (.d (eD e)), .w (iW most), e3, e4, e5, e6, e7, e8, e9], h⟩ = .rt (.w (.d (rwD r))) st) ∨
    (sr ds e n rows = none ∧ ∃ st, forL none (tgV 4) (B53_4 (callF fns (k + 1))) ((List.range' l (n + 1)).map iW) ⟨[.w (.d (dsD ds)), .w (.d (eD e)), .w (iW most), e3, e4, e5, e6, e7, e8, e9], h⟩ = .nx st) := by
  intro n
  induction n with
  | zero =>
    intro l rows e3 e4 e5 e6 e7 e8 e9 h hl hb fit cap hr
    have fx : ∀ x ∈ rows, x.2.1.length ≤ 100000 ∧ x.2.2.length ≤ 100000 := fun x hx => by have := fit x hx; omega
    have r' : (List.range' l (0 + 1)).map iW = iW l :: (List.range' (l + 1) 0).map iW := by rw [List.range'_succ]; rfl
    rw [r']
    obtain ⟨j, h1, I1, hj⟩ := it_rows (w0 := .d (dsD ds)) (w1 := .d (eD e)) (w2 := iW most) (e4 := .w (iW l)) (e5 := e5) (e6 := e6) (e7 := e7) (e8 := e8) (e9 := e9) hr
    rcases b53_find k (ds := .d (dsD ds)) (w2 := iW most) (e := e) (e3 := .w (.ref j)) (e4 := .w (iW l)) (e7 := e7) (e8 := e8) (e9 := e9) (h := h1) (kp := some (j, .lst (rows.map rwW))) (fun ρ => decide_eq_true hj) he rows e5 e6 fx with ⟨r, st, f1, L⟩ | ⟨f1, e5', e6', L⟩
    · refine .inl ⟨r, st, sr_some f1, forL_rt rfl rfl ?_⟩
      unfold B53_4
      exact seq_rt (for_ev I1 L)
    · refine .inr ⟨f1, _, forL_cons rfl rfl (s2 := ⟨[.w (.d (dsD ds)), .w (.d (eD e)), .w (iW most), .w (.ref (h1 ++ [O.lst []]).length), .w (iW l), e5', e6', .w (.ref (h1 ++ [O.lst []]).length), e8, e9], h1 ++ [O.lst []] ++ [O.lst []]⟩) ?_ (forL_nil rfl)⟩
      unfold B53_4
      refine seq_nx (for_ev I1 L) (seq_nx (s1 := ⟨[.w (.d (dsD ds)), .w (.d (eD e)), .w (iW most), .w (.ref j), .w (iW l), e5', e6', .own (.lst []), e8, e9], h1⟩) rfl (seq_nx (s1 := ⟨[.w (.d (dsD ds)), .w (.d (eD e)), .w (iW most), .w (.ref j), .w (iW l), e5', e6', .own (.lst []), e8, e9], h1 ++ [.lst []]⟩) ?_ rfl))
      have tf : tst (op2 ltV (vE 4) (vE 2)) ⟨[.w (.d (dsD ds)), .w (.d (eD e)), .w (iW most), .w (.ref j), .w (iW l), e5', e6', .own (.lst []), e8, e9], h1⟩ = .ok false ⟨[.w (.d (dsD ds)), .w (.d (eD e)), .w (iW most), .w (.ref j), .w (iW l), e5', e6', .own (.lst []), e8, e9], h1⟩ := by
        array_get_dec
      have it : itE (iteE (tst (op2 ltV (vE 4) (vE 2))) (vE 3) (lstE asN)) ⟨[.w (.d (dsD ds)), .w (.d (eD e)), .w (iW most), .w (.ref j), .w (iW l), e5', e6', .own (.lst []), e8, e9], h1⟩ = .ok ⟨[], some (h1.length, .lst [])⟩ ⟨[.w (.d (dsD ds)), .w (.d (eD e)), .w (iW most), .w (.ref j), .w (iW l), e5', e6', .own (.lst []), e8, e9], h1 ++ [.lst []]⟩ := itE_ev (ite_f tf rfl) rfl
      exact for_ev it (forL_nil (decide_eq_true (by simp)))
  | succ n ih =>
    intro l rows e3 e4 e5 e6 e7 e8 e9 h hl hb fit cap hr
    have fx : ∀ x ∈ rows, x.2.1.length ≤ 100000 ∧ x.2.2.length ≤ 100000 := fun x hx => by have := fit x hx; omega
    have r' : (List.range' l (n + 1 + 1)).map iW = iW l :: (List.range' (l + 1) (n + 1)).map iW := by rw [List.range'_succ]; rfl
    rw [r']
    obtain ⟨j, h1, I1, hj⟩ := it_rows (w0 := .d (dsD ds)) (w1 := .d (eD e)) (w2 := iW most) (e4 := .w (iW l)) (e5 := e5) (e6 := e6) (e7 := e7) (e8 := e8) (e9 := e9) hr
    rcases b53_find k (ds := .d (dsD ds)) (w2 := iW most) (e := e) (e3 := .w (.ref j)) (e4 := .w (iW l)) (e7 := e7) (e8 := e8) (e9 := e9) (h := h1) (kp := some (j, .lst (rows.map rwW))) (fun ρ => decide_eq_true hj) he rows e5 e6 fx with ⟨r, st, f1, L⟩ | ⟨f1, e5', e6', L⟩
    · refine .inl ⟨r, st, sr_some f1, forL_rt rfl rfl ?_⟩
      unfold B53_4
      exact seq_rt (for_ev I1 L)
    · obtain ⟨c1, c2⟩ := cap_nxt cap
      obtain ⟨f5, f6, f8, f9, L2⟩ := b53_longer k (w1 := .d (eD e)) (w2 := iW most) (e3 := .w (.ref j)) (e4 := .w (iW l)) (ds := ds) (rows := rows) (l := l) (e5 := e5') (e6 := e6') (e8 := e8) (e9 := e9) (h := h1) (kp := some (j, .lst (rows.map rwW))) (fun ρ => decide_eq_true hj) sm hd fit (by omega) (by omega)
      have tt : tst (op2 ltV (vE 4) (vE 2)) ⟨[.w (.d (dsD ds)), .w (.d (eD e)), .w (iW most), .w (.ref j), .w (iW l), e5', e6', .own (.lst []), e8, e9], h1⟩ = .ok true ⟨[.w (.d (dsD ds)), .w (.d (eD e)), .w (iW most), .w (.ref j), .w (iW l), e5', e6', .own (.lst []), e8, e9], h1⟩ := by
        array_get_dec
      have it : itE (iteE (tst (op2 ltV (vE 4) (vE 2))) (vE 3) (lstE asN)) ⟨[.w (.d (dsD ds)), .w (.d (eD e)), .w (iW most), .w (.ref j), .w (iW l), e5', e6', .own (.lst []), e8, e9], h1⟩ = .ok ⟨rows.map rwW, some (j, .lst (rows.map rwW))⟩ ⟨[.w (.d (dsD ds)), .w (.d (eD e)), .w (iW most), .w (.ref j), .w (iW l), e5', e6', .own (.lst []), e8, e9], h1⟩ := by
        refine itE_ev (ite_t tt rfl) ?_
        unfold itR
        rw [seq_ref (s := ⟨_, h1⟩) hj]
        rfl
      have T : B53_4 (callF fns (k + 1)) ⟨[.w (.d (dsD ds)), .w (.d (eD e)), .w (iW most), e3, .w (iW l), e5, e6, e7, e8, e9], h⟩ = .nx ⟨[.w (.d (dsD ds)), .w (.d (eD e)), .w (iW most), .w (.ref h1.length), .w (iW l), f5, f6, .w (.ref h1.length), f8, f9], h1 ++ [.lst ((nxt ds rows).map rwW)]⟩ := by
        unfold B53_4
        exact seq_nx (for_ev I1 L) (seq_nx (s1 := ⟨[.w (.d (dsD ds)), .w (.d (eD e)), .w (iW most), .w (.ref j), .w (iW l), e5', e6', .own (.lst []), e8, e9], h1⟩) rfl (seq_nx (for_ev it L2) rfl))
      have es : sr ds e (n + 1) rows = sr ds e n (nxt ds rows) := by
        conv => lhs; unfold sr
        rw [f1]
      rw [es]
      rcases ih (l + 1) (nxt ds rows) (.w (.ref h1.length)) (.w (iW l)) f5 f6 (.w (.ref h1.length)) f8 f9 (h1 ++ [.lst ((nxt ds rows).map rwW)]) (by omega) (by omega) (fit_nxt sm fit) c1 (.inr ⟨_, rfl, by simp⟩) with ⟨r, st, g1, L2⟩ | ⟨g1, st, L2⟩
      · exact .inl ⟨r, st, g1, forL_cons rfl rfl T L2⟩
      · exact .inr ⟨g1, st, forL_cons rfl rfl T L2⟩
theorem lshortest_sp (k : Nat) (ds : List Dd) (e : Eff) (most : Nat) (sm : Sm ds) (hd : ds.length < 1000) (he : e.1.length ≤ 100000 ∧ e.2.length ≤ 100000) (hm : most ≤ 900) (cap : (ds.length + 1) ^ most ≤ 1000000) :
    ∃ h, callF fns (k + 2) 53 [.d (dsD ds), .d (eD e), .d (.int most)] [] = .ok (.w (.d (oR (sr ds e most r0)))) h := by
  have M := b53_lap k (ds := ds) (e := e) (most := most) sm hd he most 0 r0 (.own (.lst (r0.map rwW))) .un .un .un .un .un .un [] (by omega) (by omega) fit0 (by unfold Cap; simpa [r0] using cap) (.inl rfl)
  rw [← range'_0] at M
  rcases M with ⟨r, st, s1, L⟩ | ⟨s1, st, L⟩
  · rw [s1]
    refine ⟨st.h, ?_⟩
    apply call_ex (B := B53) (ρ := [.w (.d (dsD ds)), .w (.d (eD e)), .w (iW most), .un, .un, .un, .un, .un, .un, .un]) rfl rfl rfl
    refine ⟨.w (.d (rwD r)), st, ?_, rfl⟩
    unfold B53
    refine seq_nx (s1 := ⟨[.w (.d (dsD ds)), .w (.d (eD e)), .w (iW most), .own (.lst (r0.map rwW)), .un, .un, .un, .un, .un, .un], []⟩) rfl (seq_rt (for_ev (itR1_z (m := (most : Int) + 1) rfl (by omega) (by omega)) ?_))
    rw [show ((most : Int) + 1).toNat = most + 1 by omega]
    exact L
  · rw [s1]
    refine ⟨st.h, ?_⟩
    apply call_ex (B := B53) (ρ := [.w (.d (dsD ds)), .w (.d (eD e)), .w (iW most), .un, .un, .un, .un, .un, .un, .un]) rfl rfl rfl
    refine ⟨.w (.d .non), st, ?_, rfl⟩
    unfold B53
    refine seq_nx (s1 := ⟨[.w (.d (dsD ds)), .w (.d (eD e)), .w (iW most), .own (.lst (r0.map rwW)), .un, .un, .un, .un, .un, .un], []⟩) rfl (seq_nx (s1 := st) (for_ev (itR1_z (m := (most : Int) + 1) rfl (by omega) (by omega)) ?_) rfl)
    rw [show ((most : Int) + 1).toNat = most + 1 by omega]
    exact L
end HeadT

set_option linter.all false
set_option maxRecDepth 100000
set_option maxHeartbeats 1000000
namespace HeadT
open Mn
-- MAC
local macro_rules
  | `(tactic| sizeOf_list_dec) => `(tactic| first | exact rfl | with_reducible assumption | exact decide_eq_true (by omega) | exact decide_eq_false (by omega) | (rw [Bool.not_eq_true']; exact decide_eq_false (by omega)) | (rw [Bool.not_eq_false']; exact decide_eq_true (by omega)) | (simp (config := { decide := true }) only [*, decide_true, decide_false, Bool.not_true, Bool.not_false]; done))
local macro_rules
  | `(tactic| array_mem_dec) => `(tactic| first
    | with_reducible exact len_map
    | with_reducible exact slV_take
    | with_reducible exact slV_drop
    | ((with_reducible apply slV_takez); omega)
    | ((with_reducible apply slV_dropz); omega)
    | ((with_reducible apply add_map); (try simp only [List.length_take, List.length_drop, List.length_append, List.length_cons, List.length_nil]); omega)
    | with_reducible exact eqV_pile
    | with_reducible exact neV_pile
    | with_reducible exact eqV_eff
    | ((with_reducible apply mul_v); omega)
    | ((with_reducible apply mul_one); omega)
    | ((with_reducible apply mul_tup); omega)
    | with_reducible exact tup_map
    | with_reducible exact eqV_int
    | with_reducible exact neV_int
    | ((with_reducible apply ins_slot); exact rfl; ((show (_ : Nat) < 16777216); (try simp only [List.length_map, List.length_append, List.length_cons, List.length_nil]); omega); omega; omega)
    | ((with_reducible apply str_v); assumption)
    | ((with_reducible apply isi_ref); assumption)
    | ((with_reducible apply add_tup); (try simp only [List.length_map, List.length_append, List.length_replicate, List.length_cons, List.length_nil]); omega)
    | ((with_reducible apply mod_v); omega)
    | ((with_reducible apply div_v) <;> omega)
    | ((with_reducible apply app_slot); exact rfl; (show (_ : Nat) < 16777216); (try simp only [List.length_map, List.length_append, List.length_cons, List.length_nil]); omega)
    | ((with_reducible apply pop_slot); exact rfl; omega; omega; first | assumption | exact rfl)
    | ((with_reducible apply putz_own); exact rfl; omega; (try simp only [List.length_set, List.length_map, List.length_append, List.length_replicate, List.length_cons, List.length_nil]); omega)
    | ((with_reducible apply putz_ref); assumption; omega; (try simp only [List.length_set, List.length_map, List.length_append, List.length_replicate, List.length_cons, List.length_nil]); omega)
    | ((with_reducible apply ixz_own); exact rfl; omega; first | assumption | exact rfl)
    | ((with_reducible apply ixz_tup); omega; first | assumption | exact rfl)
    | ((with_reducible apply ixz_ref); assumption; omega; first | assumption | exact rfl)
    | exact rfl
    | assumption)
local macro_rules
  | `(tactic| array_get_dec) => `(tactic| first
    | with_reducible exact kE_ev
    | ((with_reducible apply vE_w); exact rfl)
    | ((with_reducible apply vE_o); exact rfl)
    | ((with_reducible apply op2_ev); array_get_dec; array_get_dec; array_mem_dec)
    | ((with_reducible apply op1_ev); array_get_dec; array_mem_dec)
    | with_reducible exact asN_ev
    | ((with_reducible apply asC_ev); array_get_dec; array_get_dec)
    | ((with_reducible apply tupD_ev); array_get_dec; exact rfl; exact rfl; (show (_ : Nat) ≤ 16777216); simp)
    | ((with_reducible apply tup_ev); array_get_dec; exact rfl; (show (_ : Nat) ≤ 16777216); simp)
    | ((with_reducible apply lst_ev); array_get_dec; exact rfl; (show (_ : Nat) ≤ 16777216); simp)
    | ((with_reducible apply callH_ev); array_get_dec; exact rfl; first | (apply callV_p; exact rfl; assumption; exact rfl) | (apply callV_q; exact rfl; assumption))
    | ((with_reducible apply callE_q); array_get_dec; exact rfl; assumption)
    | ((with_reducible apply meth_ev); array_get_dec; (first | exact rfl | exact isl_ref (by assumption)); array_get_dec; array_mem_dec)
    | ((with_reducible apply tst_eq); array_get_dec; array_mem_dec; first | exact rfl | sizeOf_list_dec)
    | ((with_reducible apply notT_eq); array_get_dec; first | exact rfl | sizeOf_list_dec)
    | ((with_reducible apply and_c); array_get_dec; first | (left; refine ⟨?_, ?_⟩; sizeOf_list_dec; array_get_dec) | (right; refine ⟨?_, ?_⟩; sizeOf_list_dec; exact rfl))
    | ((with_reducible apply or_c); array_get_dec; first | (left; refine ⟨?_, ?_⟩; sizeOf_list_dec; exact rfl) | (right; refine ⟨?_, ?_⟩; sizeOf_list_dec; array_get_dec))
    | ((with_reducible apply andE_c); array_get_dec; array_mem_dec; first | (left; refine ⟨?_, ?_⟩; sizeOf_list_dec; array_get_dec) | (right; refine ⟨?_, ?_⟩; sizeOf_list_dec; exact rfl))
    | ((with_reducible apply orE_c); array_get_dec; array_mem_dec; first | (left; refine ⟨?_, ?_⟩; sizeOf_list_dec; exact rfl) | (right; refine ⟨?_, ?_⟩; sizeOf_list_dec; array_get_dec))
    | ((with_reducible apply chE_t); array_get_dec; array_get_dec; array_mem_dec; array_get_dec; array_mem_dec)
    | ((with_reducible apply chE_f); array_get_dec; array_get_dec; array_mem_dec)
    | ((with_reducible apply ite_c); array_get_dec; first | (left; refine ⟨?_, ?_⟩; sizeOf_list_dec; array_get_dec) | (right; refine ⟨?_, ?_⟩; sizeOf_list_dec; array_get_dec))
    | ((with_reducible apply lc_ev); array_get_dec; assumption)
    | ((with_reducible apply sl_ev); array_get_dec; array_get_dec; array_get_dec; array_mem_dec)
    | with_reducible exact no_ev
    | ((with_reducible apply some_ev); array_get_dec)
    | ((with_reducible apply itR1_z); array_get_dec; omega; omega)
    | ((with_reducible apply itE_ev); array_get_dec; exact rfl)
    | with_reducible exact nx_ev
    | ((with_reducible apply seq_nx); array_get_dec; array_get_dec)
    | ((with_reducible apply seq_rt); array_get_dec)
    | ((with_reducible apply if_c); array_get_dec; first | (left; refine ⟨?_, ?_⟩; sizeOf_list_dec; array_get_dec) | (right; refine ⟨?_, ?_⟩; sizeOf_list_dec; array_get_dec))
    | ((with_reducible apply ret_ev); array_get_dec)
    | ((with_reducible apply set_ev); array_get_dec; exact rfl)
    | ((with_reducible apply expr_ev); array_get_dec)
    | ((with_reducible apply unp_ev); array_get_dec; exact rfl)
    | ((with_reducible apply par_ev); array_get_dec; exact rfl; exact rfl; exact rfl)
    | ((with_reducible apply for_ev); array_get_dec; assumption)
    | ((with_reducible apply put_ev); array_get_dec; array_get_dec; array_get_dec; exact rfl; array_mem_dec))
-- ENDMAC
mutual
def pl : D → Bool
  | .non => true
  | .int _ => true
  | .tup xs => pls xs
  | _ => false
def pls : List D → Bool
  | [] => true
  | x :: xs => pl x && pls xs
end
mutual
def sz : D → Nat
  | .tup xs => szs xs + 1
  | _ => 1
def szs : List D → Nat
  | [] => 0
  | x :: xs => sz x + szs xs
end
theorem pls_app : ∀ {a b : List D}, pls (a ++ b) = (pls a && pls b)
  | [], b => rfl
  | x :: a, b => by
    show (pl x && pls (a ++ b)) = (pl x && pls a && pls b)
    rw [pls_app, Bool.and_assoc]
theorem szs_app : ∀ {a b : List D}, szs (a ++ b) = szs a + szs b
  | [], b => by simp [szs]
  | x :: a, b => by
    show sz x + szs (a ++ b) = sz x + szs a + szs b
    rw [szs_app, Nat.add_assoc]
theorem sz_pos (x : D) : 0 < sz x := by cases x <;> simp [sz]
theorem szs_len : ∀ l : List D, l.length ≤ szs l
  | [] => Nat.le_refl _
  | x :: l => by
    show l.length + 1 ≤ sz x + szs l
    have := szs_len l
    have := sz_pos x
    omega
abbrev two (x : D) : W := .d (.tup [x, x])
theorem pop0_slot {s : S} {i : Nat} {ws : List W} {w : W} (e : s.ρ[i]? = some (.own (.lst (ws ++ [w])))) : popV s (.slot i) [] = some (.w w, ⟨s.ρ.set i (.own (.lst ws)), s.h⟩) := by
  have l1 : locR s (.slot i) = some (.sl i) := by unfold locR; simp only [e]
  have l2 : getO s (.sl i) = some (.lst (ws ++ [w])) := by unfold getO; simp only [e]
  unfold popV
  simp only [l1, l2, List.getLast?_append, List.getLast?_singleton, Option.or_some, Option.getD_some, List.dropLast_concat]
  rfl
theorem ext_slot {s : S} {i : Nat} {ws vs : List W} (e : s.ρ[i]? = some (.own (.lst ws))) (h : ws.length + vs.length ≤ LN) : extendV s (.slot i) [.new (.lst vs)] = some (.w (.d .non), ⟨s.ρ.set i (.own (.lst (ws ++ vs))), s.h⟩) := by
  have l1 : locR s (.slot i) = some (.sl i) := by unfold locR; simp only [e]
  have l2 : getO s (.sl i) = some (.lst ws) := by unfold getO; simp only [e]
  have l3 : objR s (.new (.lst vs)) = some (.lst vs) := rfl
  unfold extendV
  simp only [l1, l2, l3]
  rw [if_pos h]
  rfl
theorem eqv_self : ∀ x : D, pl x = true → D.eqv x x = true := by
  intro x
  exact (D.rec (motive_1 := fun x => pl x = true → D.eqv x x = true) (motive_2 := fun xs => pls xs = true → D.eqvs xs xs = true)
    (fun _ => rfl) (fun b h => by cases h) (fun i _ => by show (i == i) = true; simp) (fun s h => by cases h) (fun xs ih h => ih h) (fun _ => rfl)
    (fun x xs ih1 ih2 h => by
      have h : (pl x && pls xs) = true := h
      rw [Bool.and_eq_true] at h
      show (D.eqv x x && D.eqvs xs xs) = true
      rw [ih1 h.1, ih2 h.2]; rfl) x)
theorem same_turn {call : Call} {a0 a1 : W} {l : List D} {x : D} {e3 e4 e5 : E0} {h : List O} (f5 : e5.free = true) (hp : pl x = true) (hs : szs l + sz x ≤ 1000000) :
    ∃ l' e3' e4' e5', B54_1 call ⟨[.w a0, .w a1, .own (.lst ((l ++ [x]).map two)), e3, e4, e5], h⟩ = .nx ⟨[.w a0, .w a1, .own (.lst ((l ++ l').map two)), e3', e4', e5'], h⟩ ∧ e5'.free = true ∧ pls l' = true ∧ szs l' + 1 = sz x := by
  have P : unpS (tgT [tgV 3, tgV 4]) (meth popV (vE 2) (asN)) ⟨[.w a0, .w a1, .own (.lst ((l ++ [x]).map two)), e3, e4, e5], h⟩ = .nx ⟨[.w a0, .w a1, .own (.lst (l.map two)), .w (.d x), .w (.d x), e5], h⟩ := by
    refine unp_ev (x := .w (two x)) (s1 := ⟨[.w a0, .w a1, .own (.lst (l.map two)), e3, e4, e5], h⟩) ?_ rfl
    refine meth_ev (vE_o rfl) rfl asN_ev ?_
    rw [List.map_append]
    exact pop0_slot rfl
  have ll := szs_len l
  cases x with
  | bl b => cases hp
  | str s => cases hp
  | non =>
    refine ⟨[], .w (.d .non), .w (.d .non), e5, ?_, f5, rfl, rfl⟩
    rw [List.append_nil]
    unfold B54_1
    apply seq_nx P
    array_get_dec
  | int i =>
    refine ⟨[], .w (.d (.int i)), .w (.d (.int i)), e5, ?_, f5, rfl, rfl⟩
    rw [List.append_nil]
    have ni : (!decide (i = i)) = false := by simp
    unfold B54_1
    apply seq_nx P
    array_get_dec
  | tup xs =>
    have hx : (sz (.tup xs)) = szs xs + 1 := rfl
    have lx := szs_len xs
    obtain ⟨e5', f5', E⟩ := lcA (e := tupE (asC (op2 ixV (vE 3) (vE 5)) (asC (op2 ixV (vE 4) (vE 5)) (asN)))) (ρ := [.w a0, .w a1, .own (.lst (l.map two)), .w (.d (.tup xs)), .w (.d (.tup xs)), e5]) (i := 5) (h := h) iW (fun i => D.tup [xs.getD i .non, xs.getD i .non]) (by show 5 < 6; omega) (List.range xs.length)
      (fun i hi => by
        have hi := List.mem_range.mp hi
        have g : xs[i]? = some (xs.getD i .non) := by rw [List.getD_eq_getElem?_getD, List.getElem?_eq_getElem hi]; rfl
        apply ok_as
        · array_get_dec
        · rfl
        · rfl) [] e5 f5 (by rw [List.length_range]; show 0 + xs.length ≤ 16777216; omega)
    have em : ((List.range xs.length).map fun i => D.tup [xs.getD i .non, xs.getD i .non]).map W.d = xs.map two := by
      rw [List.map_map]
      apply List.ext_getElem
      · simp
      · intro i h1 h2
        simp
        rw [List.getElem?_eq_getElem (by simpa using h2)]; rfl
    rw [em, List.nil_append] at E
    refine ⟨xs, .w (.d (.tup xs)), .w (.d (.tup xs)), e5, ?_, f5, hp, rfl⟩
    have nn : (!decide (((xs.map W.d).length : Int) = ((xs.map W.d).length : Int))) = false := by simp
    have len1 : ∀ i s, vE i s = .ok (.w (.d (.tup xs))) s → op1 lenV (vE i) s = .ok (iR (xs.length : Nat)) s := fun i s hv => op1_ev hv (by
      show some (iR ((xs.map W.d).length : Nat)) = _
      rw [List.length_map])
    have n2 : (!decide ((xs.length : Int) = (xs.length : Int))) = false := by simp
    have C1 : orT (notT (tst (op1 (isiV .tup) (vE 3)))) (tst (op2 neV (op1 lenV (vE 3)) (op1 lenV (vE 4)))) ⟨[.w a0, .w a1, .own (.lst (l.map two)), .w (.d (.tup xs)), .w (.d (.tup xs)), e5], h⟩ = .ok false ⟨[.w a0, .w a1, .own (.lst (l.map two)), .w (.d (.tup xs)), .w (.d (.tup xs)), e5], h⟩ :=
      orT_f rfl (tst_eq (op2_ev (len1 3 _ rfl) (len1 4 _ rfl) neV_int) rfl n2)
    unfold B54_1
    apply seq_nx P
    refine if_t (s1 := ⟨[.w a0, .w a1, .own (.lst (l.map two)), .w (.d (.tup xs)), .w (.d (.tup xs)), e5], h⟩) rfl (seq_nx (if_f C1 rfl) ?_)
    refine expr_ev (x := .w (.d .non)) (meth_ev (vE_o rfl) rfl (asC_ev (x := .new (.lst (xs.map two))) (s1 := ⟨[.w a0, .w a1, .own (.lst (l.map two)), .w (.d (.tup xs)), .w (.d (.tup xs)), e5], h⟩) ?_ asN_ev) ?_)
    · exact lc_ev (itR1_z (len1 4 _ rfl) (by omega) (by omega)) E
    · rw [List.map_append]
      refine (ext_slot (vs := xs.map two) rfl ?_).trans rfl
      rw [List.length_map, List.length_map]
      show l.length + xs.length ≤ 16777216
      omega
theorem same_loop {call : Call} {a0 a1 : W} {h : List O} : ∀ (F : Nat) (l : List D) (e3 e4 e5 : E0), e5.free = true → pls l = true → szs l ≤ 1000000 → szs l < F →
    ∃ st, whileN (tst (vE 2)) (B54_1 call) F ⟨[.w a0, .w a1, .own (.lst (l.map two)), e3, e4, e5], h⟩ = .nx st
  | 0, l, e3, e4, e5, _, _, _, hF => absurd hF (Nat.not_lt_zero _)
  | F + 1, l, e3, e4, e5, f5, hp, hs, hF => by
    rcases List.eq_nil_or_concat l with rfl | ⟨l0, x, rfl⟩
    · exact ⟨_, while_f rfl⟩
    · rw [List.concat_eq_append] at *
      rw [pls_app, Bool.and_eq_true] at hp
      rw [szs_app] at hs hF
      have hx : pl x = true := by
        have := hp.2
        simpa [pls] using this
      have sx : szs [x] = sz x := by simp [szs]
      rw [sx] at hs hF
      obtain ⟨l', e3', e4', e5', T, f', p', s'⟩ := same_turn (call := call) (a0 := a0) (a1 := a1) (l := l0) (x := x) (e3 := e3) (e4 := e4) (h := h) f5 hx hs
      obtain ⟨st, W⟩ := same_loop F (l0 ++ l') e3' e4' e5' f' (by rw [pls_app, hp.1, p']; rfl) (by rw [szs_app]; omega) (by rw [szs_app]; omega)
      refine ⟨st, while_t (s1 := ⟨[.w a0, .w a1, .own (.lst ((l0 ++ [x]).map two)), e3, e4, e5], h⟩) ?_ T W⟩
      refine tst_ev (vE_o rfl) ?_
      show some (!((l0 ++ [x]).map two).isEmpty) = _
      rw [List.map_append]
      simp
theorem same_sp (k : Nat) (x : D) (hp : pl x = true) (hs : sz x ≤ 1000000) : ∃ h, callF fns (k + 1) 54 [.d x, .d x] [] = .ok (bR true) h := by
  obtain ⟨st, L⟩ := same_loop (call := callF fns k) (a0 := .d x) (a1 := .d x) (h := []) WN [x] .un .un .un rfl (by show (pl x && true) = true; rw [hp]; rfl) (by show sz x + 0 ≤ 1000000; omega) (by show sz x + 0 < 2 ^ 40; omega)
  refine ⟨st.h, ?_⟩
  apply call_ex (B := B54) (ρ := [.w (.d x), .w (.d x), .un, .un, .un, .un]) rfl rfl rfl
  refine ⟨bR true, st, ?_, rfl⟩
  unfold B54
  exact seq_nx (s1 := ⟨[.w (.d x), .w (.d x), .own (.lst ([x].map two)), .un, .un, .un], []⟩) rfl (seq_nx L rfl)
theorem bool_sp (k : Nat) (a b : Bool) : callF fns (k + 1) 55 [.d (.bl a), .d (.bl b)] [] = .ok (bR (a == b)) [] := by cases a <;> cases b <;> rfl
/-! the things that are compared -/
theorem pls_int : ∀ p : List Int, pls (p.map D.int) = true
  | [] => rfl
  | a :: p => by show (true && pls (p.map D.int)) = true; rw [pls_int p]; rfl
theorem szs_int : ∀ p : List Int, szs (p.map D.int) = p.length
  | [] => rfl
  | a :: p => by show 1 + szs (p.map D.int) = p.length + 1; rw [szs_int p]; omega
theorem pl_oE (o : Option Eff) : pl (oE o) = true := by
  cases o with
  | none => rfl
  | some e =>
    show (pls (e.1.map D.int) && (pls (e.2.map D.int) && true)) = true
    rw [pls_int, pls_int]; rfl
theorem sz_oE {o : Option Eff} {n : Nat} (h : Bd n o) : sz (oE o) ≤ 2 * n + 3 := by
  cases o with
  | none => show 1 ≤ _; omega
  | some e =>
    have := h e rfl
    show (szs (e.1.map D.int) + 1 + (szs (e.2.map D.int) + 1 + 0)) + 1 ≤ _
    rw [szs_int, szs_int]
    omega
theorem pls_nI : ∀ p : List Nat, pls (p.map nI) = true
  | [] => rfl
  | a :: p => by show (true && pls (p.map nI)) = true; rw [pls_nI p]; rfl
theorem szs_nI : ∀ p : List Nat, szs (p.map nI) = p.length
  | [] => rfl
  | a :: p => by show 1 + szs (p.map nI) = p.length + 1; rw [szs_nI p]; omega
theorem pl_oR (o : Option (List Nat)) : pl (oR o) = true := by
  cases o with
  | none => rfl
  | some r => exact pls_nI r
theorem sz_oR {o : Option (List Nat)} {n : Nat} (h : ∀ r, o = some r → r.length ≤ n) : sz (oR o) ≤ n + 1 := by
  cases o with
  | none => show 1 ≤ _; omega
  | some r =>
    have := h r rfl
    show szs (r.map nI) + 1 ≤ _
    rw [szs_nI]
    omega
theorem fnd_len {e : Eff} {l : Nat} : ∀ {rows : List Rw} {r : List Nat}, Fit l rows → fnd e rows = some r → r.length ≤ l
  | [], r, _, h => by cases h
  | x :: rows, r, fit, h => by
    unfold fnd at h
    split at h
    · cases h
      exact (fit x List.mem_cons_self).1
    · exact fnd_len (fun y hy => fit y (List.mem_cons_of_mem _ hy)) h
theorem sr_len {ds : List Dd} {e : Eff} (sm : Sm ds) : ∀ {n l : Nat} {rows : List Rw} {r : List Nat}, Fit l rows → sr ds e n rows = some r → r.length ≤ l + n
  | 0, l, rows, r, fit, h => fnd_len fit h
  | n + 1, l, rows, r, fit, h => by
    unfold sr at h
    cases q : fnd e rows with
    | some r' =>
      rw [q] at h
      cases h
      have := fnd_len fit q
      omega
    | none =>
      rw [q] at h
      have := sr_len sm (fit_nxt sm fit) h
      omega
end HeadT

set_option linter.all false
set_option maxRecDepth 100000
set_option maxHeartbeats 1000000
namespace HeadT
open Mn
theorem call_t (k j ps n : Nat) (B : Call → Mn.St) (ws : List W) (h : List O) (e : fns[j]? = some ⟨ps, n, B⟩) (hl : ws.length = ps) : callF fns (k + 1) j ws h = outF (B (callF fns k) ⟨ws.map E0.w ++ List.replicate (n - ps) E0.un, h⟩) := by
  show (match fns[j]? with
    | some F => if ws.length = F.ps then outF (F.body (callF fns k) ⟨ws.map E0.w ++ List.replicate (F.n - F.ps) E0.un, h⟩) else Res2.bad
    | none => Res2.bad) = _
  rw [e]
  show (if ws.length = ps then outF (B (callF fns k) ⟨ws.map E0.w ++ List.replicate (n - ps) E0.un, h⟩) else Res2.bad) = _
  rw [if_pos hl]
theorem ix_ref {s : S} {j u : Nat} {ws : List W} {w : W} (e : s.h[j]? = some (.lst ws)) (h : ws[u]? = some w) : ixV s (.w (.ref j)) (iR (u : Int)) = some (.w w) := ixz_ref e (by omega) (by rw [Int.toNat_natCast]; exact h)
theorem put_ref {s : S} {j u : Nat} {ws : List W} {w : W} (e : s.h[j]? = some (.lst ws)) (h : u < ws.length) : putV (.w (.ref j)) (iR (u : Int)) w s = some ⟨s.ρ, s.h.set j (.lst (ws.set u w))⟩ := by
  have := putz_ref (v := (u : Int)) (w := w) e (by omega) (by omega)
  rw [Int.toNat_natCast] at this; exact this
theorem ix_tup {s : S} {xs : List D} {u : Nat} {x : D} (h : xs[u]? = some x) : ixV s (.w (.d (.tup xs))) (iR (u : Nat)) = some (.w (.d x)) := ixz_tup (by omega) (by rw [Int.toNat_natCast]; exact h)
abbrev zW (v : Int) : W := .d (.int v)
/-- the law's scale: great sizes, a mixed number, a count, leans -/
structure SC (h : List O) (i gi li : Nat) (great : List Int) (mixed cnt : Int) (leans : List Int) : Prop where
  at_ : h[i]? = some (.lst [.ref gi, zW mixed, zW cnt, .ref li])
  g : h[gi]? = some (.lst (great.map zW))
  l : h[li]? = some (.lst (leans.map zW))
  n1 : i ≠ gi
  n2 : i ≠ li
  n3 : gi ≠ li
  len : leans.length = 8
  few : great.length < 1000
/-- what it does to the heap -/
structure Ld (i gi li : Nat) (h h' : List O) : Prop where
  sc : ∃ great mixed cnt leans, SC h' i gi li great mixed cnt leans
  len : h'.length = h.length
  oth : ∀ j, j ≠ i → j ≠ gi → j ≠ li → h'[j]? = h[j]?
theorem SC.cnt {h : List O} {i gi li : Nat} {great leans : List Int} {mixed cnt : Int} (S : SC h i gi li great mixed cnt leans) (m c : Int) : SC (h.set i (.lst [.ref gi, zW m, zW c, .ref li])) i gi li great m c leans :=
  ⟨List.getElem?_set_self (List.getElem?_eq_some_iff.mp S.at_).1, by rw [List.getElem?_set_ne S.n1]; exact S.g, by rw [List.getElem?_set_ne S.n2]; exact S.l, S.n1, S.n2, S.n3, S.len, S.few⟩
theorem SC.great {h : List O} {i gi li : Nat} {great leans : List Int} {mixed cnt : Int} (S : SC h i gi li great mixed cnt leans) (g' : List Int) (hf : g'.length < 1000) : SC (h.set gi (.lst (g'.map zW))) i gi li g' mixed cnt leans :=
  ⟨by rw [List.getElem?_set_ne (Ne.symm S.n1)]; exact S.at_, List.getElem?_set_self (List.getElem?_eq_some_iff.mp S.g).1, by rw [List.getElem?_set_ne S.n3]; exact S.l, S.n1, S.n2, S.n3, S.len, hf⟩

theorem zix {s : S} {j u : Nat} {ws : List W} {w : W} {e : Ex} {v : Int} (hv : v = (u : Int)) (h0 : e s = .ok (.w (.ref j)) s) (h1 : s.h[j]? = some (.lst ws)) (h2 : ws[u]? = some w) : op2 ixV e (kE (.int v)) s = .ok (.w w) s := by
  subst hv
  exact op2_ev h0 rfl (ix_ref h1 h2)
theorem zput {s s1 : S} {j u : Nat} {ws : List W} {x : D} {a e : Ex} {v : Int} (hv : v = (u : Int)) (he : e s = .ok (.w (.d x)) s1) (h0 : a s1 = .ok (.w (.ref j)) s1) (h1 : s1.h[j]? = some (.lst ws)) (h2 : u < ws.length) : putS a (kE (.int v)) e s = .nx ⟨s1.ρ, s1.h.set j (.lst (ws.set u (.d x)))⟩ := by
  subst hv
  exact put_ev he h0 rfl rfl (put_ref h1 h2)
theorem pop_ref {s : S} {j : Nat} {ws : List W} {w : W} (h1 : s.h[j]? = some (.lst ws)) (h2 : ws.getLast? = some w) : popV s (.w (.ref j)) [] = some (.w w, ⟨s.ρ, s.h.set j (.lst ws.dropLast)⟩) := by
  show (match getO s (.hp j) with
    | some (.lst ws) => match ws.getLast? with
      | some x => some (R.w x, setO s (.hp j) (.lst ws.dropLast))
      | none => none
    | _ => none) = _
  rw [show getO s (.hp j) = some (.lst ws) from h1]
  simp only
  rw [h2]
  rfl
theorem app_ref {s : S} {j : Nat} {ws : List W} {x : D} (h1 : s.h[j]? = some (.lst ws)) (h2 : ws.length < LN) : appendV s (.w (.ref j)) [.w (.d x)] = some (.w (.d .non), ⟨s.ρ, s.h.set j (.lst (ws ++ [.d x]))⟩) := by
  show (match getO s (.hp j) with
    | some (.lst ws) => if ws.length < LN then some (R.w (.d .non), setO s (.hp j) (.lst (ws ++ [W.d x]))) else none
    | _ => none) = _
  rw [show getO s (.hp j) = some (.lst ws) from h1]
  simp only
  rw [if_pos h2]
  rfl
theorem isl_ref {s : S} {j : Nat} {ws : List W} (h1 : s.h[j]? = some (.lst ws)) : isLst s (.w (.ref j)) = true := by
  unfold isLst
  rw [show objR s (.w (.ref j)) = some (.lst ws) from h1]
theorem tru_ref {s : S} {j : Nat} {ws : List W} (h1 : s.h[j]? = some (.lst ws)) : tru s (.w (.ref j)) = some (!ws.isEmpty) := by
  show (match objR s (.w (.ref j)) with
    | some (.lst ws) => some (!ws.isEmpty)
    | some (.dct false kvs) => some (!kvs.isEmpty)
    | _ => none) = _
  rw [show objR s (.w (.ref j)) = some (.lst ws) from h1]

theorem mul_v {s : S} {i j : Int} (h : j.natAbs < 2 ^ 64) : mulV s (iR i) (iR j) = some (iR (i * j)) := by
  show (if mulOk i j then some (iR (i * j)) else none) = _
  rw [if_pos (by unfold mulOk; rw [decide_eq_true h]; simp)]
theorem mod_v {s : S} {i j : Int} (h : 0 < j) : modV s (iR i) (iR j) = some (iR (i % j)) := by
  show (if 0 < j then some (iR (i % j)) else none) = _
  rw [if_pos h]
theorem div_v {s : S} {i j : Int} (h : 0 < j) (h2 : j ≤ 1000) : divV s (iR i) (iR j) = some (iR (i / j)) := by
  show (if 0 < j ∧ j.natAbs.log2 < 9000 then some (iR (i / j)) else none) = _
  have : j.natAbs.log2 < 9000 := Nat.lt_of_le_of_lt (Nat.log2_le_self _) (by omega)
  rw [if_pos ⟨h, this⟩]
abbrev L8 : Mn.St := seqS (setS 4 (op2 ixV (op2 ixV (vE 0) (kE (.int 3))) (vE 1))) (seqS (ifS (tst (op2 ltV (vE 4) (kE (.int 4)))) (retS (kE (.int 0))) (nxS)) (seqS (ifS (tst (op2 ltV (vE 4) (kE (.int 8)))) (retS (op2 subV (vE 2) (kE (.int 1)))) (nxS)) (seqS (ifS (tst (op2 ltV (vE 4) (kE (.int 12)))) (retS (op2 modV (op1 intV (op2 addV (op2 mulV (vE 4) (kE (.int 3))) (kE (.int 1)))) (vE 2))) (nxS)) (retS (op2 modV (op1 intV (op2 divV (op2 ixV (vE 0) (kE (.int 1))) (kE (.int 431)))) (vE 2))))))
theorem l8_ev {h : List O} {i gi li p : Nat} {great leans : List Int} {mixed cnt m : Int} (S : SC h i gi li great mixed cnt leans) (hp : p < 8) (h1 : 1 ≤ m) (h2 : m ≤ 1000) {e3 e4 : E0} :
    ∃ r st, L8 ⟨[.w (.ref i), .w (zW p), .w (zW m), e3, e4], h⟩ = .rt (iR r) st ∧ st.h = h ∧ 0 ≤ r ∧ r < m := by
  have hl : p < leans.length := by rw [S.len]; exact hp
  have g : (leans.map zW)[p]? = some (zW leans[p]) := by rw [List.getElem?_map, List.getElem?_eq_getElem hl]; rfl
  generalize leans[p] = lean at g
  have A : op2 ixV (op2 ixV (vE 0) (kE (.int 3))) (vE 1) ⟨[.w (.ref i), .w (zW p), .w (zW m), e3, e4], h⟩ = .ok (iR lean) ⟨[.w (.ref i), .w (zW p), .w (zW m), e3, e4], h⟩ := op2_ev (zix (u := 3) rfl rfl S.at_ rfl) rfl (ix_ref S.l g)
  have lt : ∀ v : Int, tst (op2 ltV (vE 4) (kE (.int v))) ⟨[.w (.ref i), .w (zW p), .w (zW m), e3, .w (zW lean)], h⟩ = .ok (decide (lean < v)) ⟨[.w (.ref i), .w (zW p), .w (zW m), e3, .w (zW lean)], h⟩ := fun v => tst_b (op2_ev rfl rfl rfl)
  have fin : ∀ {x r : Int}, r = x % m → 0 ≤ r ∧ r < m := fun e => by subst e; exact ⟨Int.emod_nonneg _ (by omega), Int.emod_lt_of_pos _ (by omega)⟩
  have st : setS 4 (op2 ixV (op2 ixV (vE 0) (kE (.int 3))) (vE 1)) ⟨[.w (.ref i), .w (zW p), .w (zW m), e3, e4], h⟩ = .nx ⟨[.w (.ref i), .w (zW p), .w (zW m), e3, .w (zW lean)], h⟩ := set_ev A rfl
  by_cases q4 : lean < 4
  · have l4 := lt 4
    rw [decide_eq_true q4] at l4
    exact ⟨0, _, seq_nx st (seq_rt (if_t l4 rfl)), rfl, by omega, by omega⟩
  · have l4 := lt 4
    rw [decide_eq_false q4] at l4
    by_cases q8 : lean < 8
    · have l8 := lt 8
      rw [decide_eq_true q8] at l8
      exact ⟨m - 1, _, seq_nx st (seq_nx (if_f l4 rfl) (seq_rt (if_t l8 rfl))), rfl, by omega, by omega⟩
    · have l8 := lt 8
      rw [decide_eq_false q8] at l8
      by_cases q12 : lean < 12
      · have l12 := lt 12
        rw [decide_eq_true q12] at l12
        refine ⟨(lean * 3 + 1) % m, _, seq_nx st (seq_nx (if_f l4 rfl) (seq_nx (if_f l8 rfl) (seq_rt (if_t l12 (ret_ev (op2_ev (op1_ev (op2_ev (op2_ev rfl rfl (mul_v (by decide))) rfl rfl) rfl) rfl (mod_v (by omega)))))))), rfl, fin rfl⟩
      · have l12 := lt 12
        rw [decide_eq_false q12] at l12
        refine ⟨(mixed / 431) % m, _, seq_nx st (seq_nx (if_f l4 rfl) (seq_nx (if_f l8 rfl) (seq_nx (if_f l12 rfl) (ret_ev (op2_ev (op1_ev (op2_ev (zix (u := 1) rfl rfl S.at_ rfl) rfl (div_v (by omega) (by omega))) rfl) rfl (mod_v (by omega))))))), rfl, fin rfl⟩

/-- the count goes up -/
theorem cnt_ev {h : List O} {i gi li : Nat} {great leans : List Int} {mixed cnt : Int} (S : SC h i gi li great mixed cnt leans) {a1 a2 : W} :
    putS (vE 0) (kE (.int 2)) (op2 addV (op2 ixV (vE 0) (kE (.int 2))) (kE (.int 1))) ⟨[.w (.ref i), .w a1, .w a2, .un, .un], h⟩ = .nx ⟨[.w (.ref i), .w a1, .w a2, .un, .un], h.set i (.lst [.ref gi, zW mixed, zW (cnt + 1), .ref li])⟩ := by
  have v0 : vE 0 ⟨[.w (.ref i), .w a1, .w a2, .un, .un], h⟩ = .ok (.w (.ref i)) ⟨[.w (.ref i), .w a1, .w a2, .un, .un], h⟩ := rfl
  have x2 := zix (u := 2) (v := 2) rfl v0 S.at_ rfl
  have e : op2 addV (op2 ixV (vE 0) (kE (.int 2))) (kE (.int 1)) ⟨[.w (.ref i), .w a1, .w a2, .un, .un], h⟩ = .ok (.w (.d (.int (cnt + 1)))) ⟨[.w (.ref i), .w a1, .w a2, .un, .un], h⟩ := op2_ev x2 rfl rfl
  exact zput (u := 2) (v := 2) rfl e v0 S.at_ (by show 2 < 4; omega)
theorem pick0 {h : List O} {i gi li p : Nat} {leans : List Int} {mixed cnt m : Int} (call : Call) (S : SC h i gi li [] mixed cnt leans) (hp : p < 8) (h1 : 1 ≤ m) (h2 : m ≤ 1000) :
    ∃ r st, B47 call ⟨[.w (.ref i), .w (zW p), .w (zW m), .un, .un], h⟩ = .rt (iR r) st ∧ Ld i gi li h st.h ∧ 0 ≤ r ∧ r < m := by
  have S1 := S.cnt mixed (cnt + 1)
  generalize hh1 : h.set i (.lst [.ref gi, zW mixed, zW (cnt + 1), .ref li]) = hA at S1
  have S2 := S1.cnt ((mixed * 22013 + (cnt + 1) * 157 + (p : Int)) % 2147482853) (cnt + 1)
  obtain ⟨r, st, E, hs, r1, r2⟩ := l8_ev S2 hp h1 h2 (e3 := .un) (e4 := .un)
  have C := cnt_ev S (a1 := zW p) (a2 := zW m)
  rw [hh1] at C
  have v0 : vE 0 ⟨[.w (.ref i), .w (zW p), .w (zW m), .un, .un], hA⟩ = .ok (.w (.ref i)) ⟨[.w (.ref i), .w (zW p), .w (zW m), .un, .un], hA⟩ := rfl
  have x0 := zix (u := 0) (v := 0) rfl v0 S1.at_ rfl
  have x1 := zix (u := 1) (v := 1) rfl v0 S1.at_ rfl
  have x2 := zix (u := 2) (v := 2) rfl v0 S1.at_ rfl
  have t0 : tst (op2 ixV (vE 0) (kE (.int 0))) ⟨[.w (.ref i), .w (zW p), .w (zW m), .un, .un], hA⟩ = .ok false ⟨[.w (.ref i), .w (zW p), .w (zW m), .un, .un], hA⟩ := tst_ev x0 (tru_ref (ws := []) S1.g)
  have m1 := op2_ev (f := mulV) (b := kE (.int 22013)) (y := iR 22013) x1 rfl (mul_v (by decide))
  have m2 := op2_ev (f := mulV) (b := kE (.int 157)) (y := iR 157) x2 rfl (mul_v (by decide))
  have a1 := op2_ev (f := addV) (r := iR (mixed * 22013 + (cnt + 1) * 157)) m1 m2 rfl
  have a2 := op2_ev (f := addV) (b := vE 1) (y := iR (p : Int)) (r := iR (mixed * 22013 + (cnt + 1) * 157 + (p : Int))) a1 rfl rfl
  have a3 := op1_ev (f1 := intV) (r := iR (mixed * 22013 + (cnt + 1) * 157 + (p : Int))) a2 rfl
  have a4 := op2_ev (f := modV) (b := kE (.int 2147482853)) (y := iR 2147482853) a3 rfl (mod_v (by decide))
  have P := zput (u := 1) (v := 1) (a := vE 0) rfl a4 v0 S1.at_ (by show 1 < 4; omega)
  refine ⟨r, st, seq_nx C (seq_nx (if_f t0 rfl) (seq_nx P E)), ?_, r1, r2⟩
  rw [hs]
  refine ⟨⟨_, _, _, _, S2⟩, by rw [← hh1]; simp, fun j j1 j2 j3 => ?_⟩
  rw [List.getElem?_set_ne (Ne.symm j1), ← hh1, List.getElem?_set_ne (Ne.symm j1)]

theorem pick1 {h : List O} {i gi li p : Nat} {g0 : List Int} {sz : Int} {leans : List Int} {mixed cnt m : Int} (call : Call) (S : SC h i gi li (g0 ++ [sz]) mixed cnt leans) (h1 : 1 ≤ m) (h2 : m ≤ 1000) :
    ∃ r st, B47 call ⟨[.w (.ref i), .w (zW p), .w (zW m), .un, .un], h⟩ = .rt (iR r) st ∧ Ld i gi li h st.h ∧ 0 ≤ r ∧ r < m := by
  have S1 := S.cnt mixed (cnt + 1)
  generalize hh1 : h.set i (.lst [.ref gi, zW mixed, zW (cnt + 1), .ref li]) = hA at S1
  have hf := S.few
  rw [List.length_append] at hf
  simp only [List.length_cons, List.length_nil] at hf
  have S2 := S1.great g0 (by omega)
  generalize hh2 : hA.set gi (.lst (g0.map zW)) = hB at S2
  have S3 := S2.great (g0 ++ [sz / m]) (by rw [List.length_append]; simp only [List.length_cons, List.length_nil]; omega)
  have C := cnt_ev S (a1 := zW p) (a2 := zW m)
  rw [hh1] at C
  have v0 : vE 0 ⟨[.w (.ref i), .w (zW p), .w (zW m), .un, .un], hA⟩ = .ok (.w (.ref i)) ⟨[.w (.ref i), .w (zW p), .w (zW m), .un, .un], hA⟩ := rfl
  have x0 := zix (u := 0) (v := 0) rfl v0 S1.at_ rfl
  have t0 : tst (op2 ixV (vE 0) (kE (.int 0))) ⟨[.w (.ref i), .w (zW p), .w (zW m), .un, .un], hA⟩ = .ok true ⟨[.w (.ref i), .w (zW p), .w (zW m), .un, .un], hA⟩ := tst_ev x0 ((tru_ref S1.g).trans (by rw [List.map_append]; simp))
  have po : popV ⟨[.w (.ref i), .w (zW p), .w (zW m), .un, .un], hA⟩ (.w (.ref gi)) [] = some (.w (zW sz), ⟨[.w (.ref i), .w (zW p), .w (zW m), .un, .un], hB⟩) := by
    have := pop_ref (s := ⟨[.w (.ref i), .w (zW p), .w (zW m), .un, .un], hA⟩) (w := zW sz) S1.g (by rw [List.map_append]; simp)
    rw [List.map_append] at this
    simp only [List.map_cons, List.map_nil, List.dropLast_concat, hh2] at this
    exact this
  have P : setS 3 (op1 intV (meth popV (op2 ixV (vE 0) (kE (.int 0))) asN)) ⟨[.w (.ref i), .w (zW p), .w (zW m), .un, .un], hA⟩ = .nx ⟨[.w (.ref i), .w (zW p), .w (zW m), .w (zW sz), .un], hB⟩ :=
    set_ev (x := iR sz) (op1_ev (meth_ev x0 (isl_ref S1.g) asN_ev po) rfl) rfl
  have v0' : vE 0 ⟨[.w (.ref i), .w (zW p), .w (zW m), .w (zW sz), .un], hB⟩ = .ok (.w (.ref i)) ⟨[.w (.ref i), .w (zW p), .w (zW m), .w (zW sz), .un], hB⟩ := rfl
  have x0' := zix (u := 0) (v := 0) rfl v0' S2.at_ rfl
  have ge : tst (op2 geV (vE 3) (vE 2)) ⟨[.w (.ref i), .w (zW p), .w (zW m), .w (zW sz), .un], hB⟩ = .ok (decide (m ≤ sz)) ⟨[.w (.ref i), .w (zW p), .w (zW m), .w (zW sz), .un], hB⟩ := tst_b (op2_ev rfl rfl rfl)
  have rt : ∀ h3 : List O, retS (op2 modV (vE 3) (vE 2)) ⟨[.w (.ref i), .w (zW p), .w (zW m), .w (zW sz), .un], h3⟩ = .rt (iR (sz % m)) ⟨[.w (.ref i), .w (zW p), .w (zW m), .w (zW sz), .un], h3⟩ := fun h3 => ret_ev (op2_ev rfl rfl (mod_v (by omega)))
  have oth : ∀ j, j ≠ i → j ≠ gi → j ≠ li → hB[j]? = h[j]? := fun j j1 j2 j3 => by
    rw [← hh2, List.getElem?_set_ne (Ne.symm j2), ← hh1, List.getElem?_set_ne (Ne.symm j1)]
  have lenB : hB.length = h.length := by rw [← hh2, List.length_set, ← hh1, List.length_set]
  have r1 : 0 ≤ sz % m := Int.emod_nonneg _ (by omega)
  have r2 : sz % m < m := Int.emod_lt_of_pos _ (by omega)
  by_cases q : m ≤ sz
  · rw [decide_eq_true q] at ge
    have ap : appendV ⟨[.w (.ref i), .w (zW p), .w (zW m), .w (zW sz), .un], hB⟩ (.w (.ref gi)) [.w (.d (.int (sz / m)))] = some (.w (.d .non), ⟨[.w (.ref i), .w (zW p), .w (zW m), .w (zW sz), .un], hB.set gi (.lst ((g0 ++ [sz / m]).map zW))⟩) := by
      have := app_ref (s := ⟨[.w (.ref i), .w (zW p), .w (zW m), .w (zW sz), .un], hB⟩) (x := .int (sz / m)) S2.g (by rw [List.length_map]; show g0.length < 16777216; omega)
      rw [List.map_append]
      exact this
    have A : exprS (meth appendV (op2 ixV (vE 0) (kE (.int 0))) (asC (op2 divV (vE 3) (vE 2)) asN)) ⟨[.w (.ref i), .w (zW p), .w (zW m), .w (zW sz), .un], hB⟩ = .nx ⟨[.w (.ref i), .w (zW p), .w (zW m), .w (zW sz), .un], hB.set gi (.lst ((g0 ++ [sz / m]).map zW))⟩ :=
      expr_ev (meth_ev x0' (isl_ref S2.g) (asC_ev (op2_ev rfl rfl (div_v (by omega) h2)) asN_ev) ap)
    refine ⟨sz % m, _, seq_nx C (seq_rt (if_t t0 (seq_nx P (seq_nx (if_t ge A) (rt _))))), ⟨⟨_, _, _, _, S3⟩, by show (hB.set gi _).length = _; rw [List.length_set]; exact lenB, fun j j1 j2 j3 => ?_⟩, r1, r2⟩
    show (hB.set gi _)[j]? = _
    rw [List.getElem?_set_ne (Ne.symm j2)]
    exact oth j j1 j2 j3
  · rw [decide_eq_false q] at ge
    exact ⟨sz % m, _, seq_nx C (seq_rt (if_t t0 (seq_nx P (seq_nx (if_f ge rfl) (rt _))))), ⟨⟨_, _, _, _, S2⟩, lenB, oth⟩, r1, r2⟩
/-- _law_pick -/
theorem pick_sp (k : Nat) {h : List O} {i gi li p : Nat} {great leans : List Int} {mixed cnt m : Int} (S : SC h i gi li great mixed cnt leans) (hp : p < 8) (h1 : 1 ≤ m) (h2 : m ≤ 1000) :
    ∃ r h', callF fns (k + 1) 47 [.ref i, zW p, zW m] h = .ok (iR r) h' ∧ Ld i gi li h h' ∧ 0 ≤ r ∧ r < m := by
  have c0 := call_t k 47 3 5 B47 [.ref i, zW p, zW m] h rfl rfl
  have e : [W.ref i, zW p, zW m].map E0.w ++ List.replicate (5 - 3) E0.un = [.w (.ref i), .w (zW p), .w (zW m), .un, .un] := rfl
  rw [e] at c0
  rw [c0]
  have fin : (∃ r st, B47 (callF fns k) ⟨[.w (.ref i), .w (zW p), .w (zW m), .un, .un], h⟩ = .rt (iR r) st ∧ Ld i gi li h st.h ∧ 0 ≤ r ∧ r < m) → ∃ r h', outF (B47 (callF fns k) ⟨[.w (.ref i), .w (zW p), .w (zW m), .un, .un], h⟩) = .ok (iR r) h' ∧ Ld i gi li h h' ∧ 0 ≤ r ∧ r < m := fun ⟨r, st, B, l, r1, r2⟩ => by
    rw [B]
    exact ⟨r, st.h, rfl, l, r1, r2⟩
  rcases List.eq_nil_or_concat great with rfl | ⟨g0, sz, rfl⟩
  · exact fin (pick0 _ S hp h1 h2)
  · rw [List.concat_eq_append] at S
    exact fin (pick1 _ S h1 h2)
/-- the scale stands at i -/
def Sc (i gi li : Nat) (h : List O) : Prop := ∃ great mixed cnt leans, SC h i gi li great mixed cnt leans
theorem Ld.trans {i gi li : Nat} {h h1 h2 : List O} (a : Ld i gi li h h1) (b : Ld i gi li h1 h2) : Ld i gi li h h2 :=
  ⟨b.sc, b.len.trans a.len, fun j j1 j2 j3 => (b.oth j j1 j2 j3).trans (a.oth j j1 j2 j3)⟩
/-- a call of _law_pick -/
theorem cl_pick (k : Nat) {s : S} {i gi li p : Nat} {e0 e : Ex} {v m : Int} (hv : v = (p : Int)) (v0 : e0 s = .ok (.w (.ref i)) s) (ve : e s = .ok (iR m) s) (S : Sc i gi li s.h) (hp : p < 8) (h1 : 1 ≤ m) (h2 : m ≤ 1000) :
    ∃ r h', callH (callF fns (k + 1)) 47 (asC e0 (asC (kE (.int v)) (asC e asN))) s = .ok (iR r) ⟨s.ρ, h'⟩ ∧ Ld i gi li s.h h' ∧ 0 ≤ r ∧ r < m := by
  subst hv
  obtain ⟨great, mixed, cnt, leans, S⟩ := S
  obtain ⟨r, h', C, l, r1, r2⟩ := pick_sp k S hp h1 h2
  exact ⟨r, h', (callH_ev (asC_ev v0 (asC_ev rfl (asC_ev ve asN_ev))) rfl (callV_n rfl C)).trans rfl, l, r1, r2⟩


abbrev S7 : Mn.St := (seqS (setS 4 (op2 modV (op1 absV (op1 intV (vE 3))) (op2 shlV (kE (.int 1)) (kE (.int 1480))))) (seqS (setS 2 (op2 modV (op1 intV (op2 addV (op2 addV (op2 addV (op2 mulV (vE 2) (kE (.int 20011))) (op2 mulV (op2 modV (vE 4) (kE (.int 1001983))) (kE (.int 101)))) (op1 intV (op2 ltV (op1 intV (vE 3)) (kE (.int 0))))) (kE (.int 66)))) (kE (.int 2147482853)))) (ifS (tst (op2 geV (vE 4) (op2 powV (kE (.int 10)) (kE (.int 18))))) (setS 1 (op2 addV (lstE (asC (vE 4) (asN))) (vE 1))) (nxS))))
theorem s7_turn {a0 : W} {g : List Int} {mx c : Int} {e4 e5 e6 : E0} {h : List O} (hg : g.length < 1000) :
    ∃ (g' : List Int) (mx' : Int) (e4' : E0), S7 ⟨[.w a0, .own (.lst (g.map zW)), .w (zW mx), .w (zW c), e4, e5, e6], h⟩ = .nx ⟨[.w a0, .own (.lst (g'.map zW)), .w (zW mx'), .w (zW c), e4', e5, e6], h⟩ ∧ g'.length ≤ g.length + 1 := by
  obtain ⟨P, hP, hP2⟩ : ∃ P : Int, shlV ⟨[.w a0, .own (.lst (g.map zW)), .w (zW mx), .w (zW c), e4, e5, e6], h⟩ (iR 1) (iR 1480) = some (iR P) ∧ 0 < P := by
    refine ⟨1 * 2 ^ (1480 : Int).toNat, ?_, ?_⟩
    · show (if (0 : Int) ≤ 1480 ∧ (1480 : Int) ≤ 1000000 ∧ (1 : Int).natAbs < 2 ^ 64 then some (iR (1 * 2 ^ (1480 : Int).toNat)) else none) = _
      rw [if_pos (by decide)]
    · rw [Int.one_mul]
      exact Int.pow_pos (by decide)
  generalize hsz : (if c < 0 then -c else c) % P = sz
  have A : setS 4 (op2 modV (op1 absV (op1 intV (vE 3))) (op2 shlV (kE (.int 1)) (kE (.int 1480)))) ⟨[.w a0, .own (.lst (g.map zW)), .w (zW mx), .w (zW c), e4, e5, e6], h⟩ = .nx ⟨[.w a0, .own (.lst (g.map zW)), .w (zW mx), .w (zW c), .w (zW sz), e5, e6], h⟩ :=
    set_ev (x := iR sz) (op2_ev (x := iR (if c < 0 then -c else c)) (op1_ev (x := iR c) (op1_ev rfl rfl) rfl) (op2_ev rfl rfl hP) (by rw [mod_v hP2, hsz])) rfl
  have m1 : op2 mulV (vE 2) (kE (.int 20011)) ⟨[.w a0, .own (.lst (g.map zW)), .w (zW mx), .w (zW c), .w (zW sz), e5, e6], h⟩ = .ok (iR (mx * 20011)) ⟨[.w a0, .own (.lst (g.map zW)), .w (zW mx), .w (zW c), .w (zW sz), e5, e6], h⟩ := op2_ev rfl rfl (mul_v (by decide))
  have m2 : op2 mulV (op2 modV (vE 4) (kE (.int 1001983))) (kE (.int 101)) ⟨[.w a0, .own (.lst (g.map zW)), .w (zW mx), .w (zW c), .w (zW sz), e5, e6], h⟩ = .ok (iR (sz % 1001983 * 101)) ⟨[.w a0, .own (.lst (g.map zW)), .w (zW mx), .w (zW c), .w (zW sz), e5, e6], h⟩ := op2_ev (op2_ev rfl rfl (mod_v (by decide))) rfl (mul_v (by decide))
  have m3 : op1 intV (op2 ltV (op1 intV (vE 3)) (kE (.int 0))) ⟨[.w a0, .own (.lst (g.map zW)), .w (zW mx), .w (zW c), .w (zW sz), e5, e6], h⟩ = .ok (iR (if decide (c < 0) = true then 1 else 0)) ⟨[.w a0, .own (.lst (g.map zW)), .w (zW mx), .w (zW c), .w (zW sz), e5, e6], h⟩ := op1_ev (x := bR (decide (c < 0))) (op2_ev (x := iR c) (op1_ev rfl rfl) rfl rfl) rfl
  have s1 := op2_ev (f := addV) (r := iR (mx * 20011 + sz % 1001983 * 101)) m1 m2 rfl
  have s2 := op2_ev (f := addV) (r := iR (mx * 20011 + sz % 1001983 * 101 + (if decide (c < 0) = true then 1 else 0))) s1 m3 rfl
  have s3 := op2_ev (f := addV) (b := kE (.int 66)) (y := iR 66) (r := iR (mx * 20011 + sz % 1001983 * 101 + (if decide (c < 0) = true then 1 else 0) + 66)) s2 rfl rfl
  have s4 := op1_ev (f1 := intV) (r := iR (mx * 20011 + sz % 1001983 * 101 + (if decide (c < 0) = true then 1 else 0) + 66)) s3 rfl
  have s5 := op2_ev (f := modV) (b := kE (.int 2147482853)) (y := iR 2147482853) s4 rfl (mod_v (by decide))
  generalize hm : (mx * 20011 + sz % 1001983 * 101 + (if decide (c < 0) = true then 1 else 0) + 66) % 2147482853 = mx' at s5
  have Bm := set_ev (i := 2) s5 (s2 := ⟨[.w a0, .own (.lst (g.map zW)), .w (zW mx'), .w (zW c), .w (zW sz), e5, e6], h⟩) rfl
  have pw : op2 powV (kE (.int 10)) (kE (.int 18)) ⟨[.w a0, .own (.lst (g.map zW)), .w (zW mx'), .w (zW c), .w (zW sz), e5, e6], h⟩ = .ok (iR (10 ^ 18)) ⟨[.w a0, .own (.lst (g.map zW)), .w (zW mx'), .w (zW c), .w (zW sz), e5, e6], h⟩ := rfl
  have t : tst (op2 geV (vE 4) (op2 powV (kE (.int 10)) (kE (.int 18)))) ⟨[.w a0, .own (.lst (g.map zW)), .w (zW mx'), .w (zW c), .w (zW sz), e5, e6], h⟩ = .ok (decide ((10 : Int) ^ 18 ≤ sz)) ⟨[.w a0, .own (.lst (g.map zW)), .w (zW mx'), .w (zW c), .w (zW sz), e5, e6], h⟩ := tst_b (op2_ev rfl pw rfl)
  by_cases q : (10 : Int) ^ 18 ≤ sz
  · rw [decide_eq_true q] at t
    refine ⟨sz :: g, mx', .w (zW sz), seq_nx A (seq_nx Bm (if_t t (set_ev (x := .new (.lst ((sz :: g).map zW))) (op2_ev (lst_ev (ws := [zW sz]) (asC_ev rfl asN_ev) rfl (by show 1 ≤ 16777216; omega)) rfl ?_) rfl))), by simp⟩
    show (if [zW sz].length + (g.map zW).length ≤ LN then some (R.new (.lst ([zW sz] ++ g.map zW))) else none) = _
    rw [if_pos (by simp only [List.length_map, List.length_cons, List.length_nil]; show 0 + 1 + g.length ≤ 16777216; omega)]
    rfl
  · rw [decide_eq_false q] at t
    exact ⟨g, mx', .w (zW sz), seq_nx A (seq_nx Bm (if_f t rfl)), by omega⟩

theorem s7_loop {a0 : W} {e5 e6 : E0} {h : List O} {k : Option (Nat × O)} (hk : ∀ ρ, kept ⟨ρ, h⟩ k = true) : ∀ (cs : List Int) (g : List Int) (mx : Int) (e3 e4 : E0), g.length + cs.length < 1000 →
    ∃ (g' : List Int) (mx' : Int) (e3' e4' : E0), forL k (tgV 3) S7 (cs.map zW) ⟨[.w a0, .own (.lst (g.map zW)), .w (zW mx), e3, e4, e5, e6], h⟩ = .nx ⟨[.w a0, .own (.lst (g'.map zW)), .w (zW mx'), e3', e4', e5, e6], h⟩ ∧ g'.length < 1000
  | [], g, mx, e3, e4, hl => ⟨g, mx, e3, e4, forL_nil (hk _), by simpa using hl⟩
  | c :: cs, g, mx, e3, e4, hl => by
    simp only [List.length_cons] at hl
    obtain ⟨g', mx', e4', T, tl⟩ := s7_turn (a0 := a0) (g := g) (mx := mx) (c := c) (e4 := e4) (e5 := e5) (e6 := e6) (h := h) (by omega)
    obtain ⟨g2, mx2, e3', e4'', L, l2⟩ := s7_loop hk cs g' mx' (.w (zW c)) e4' (by omega)
    exact ⟨g2, mx2, e3', e4'', forL_cons (hk _) rfl T L, l2⟩
abbrev P7 : Mn.St := (seqS (setS 2 (op2 modV (op1 intV (op2 addV (op2 addV (op2 mulV (vE 2) (kE (.int 6007))) (op2 mulV (kE (.int 239)) (vE 6))) (kE (.int 113)))) (kE (.int 2147482853)))) (exprS (meth appendV (vE 5) (asC (op2 modV (op1 intV (op2 divV (vE 2) (kE (.int 421)))) (kE (.int 80))) (asN)))))
theorem p7_turn {a0 : W} {l : List Int} {mx : Int} {p : Nat} {e1 e3 e4 : E0} {h : List O} (hl : l.length < 1000) (hp : p < 8) :
    ∃ (mx' v : Int), P7 ⟨[.w a0, e1, .w (zW mx), e3, e4, .own (.lst (l.map zW)), .w (zW p)], h⟩ = .nx ⟨[.w a0, e1, .w (zW mx'), e3, e4, .own (.lst ((l ++ [v]).map zW)), .w (zW p)], h⟩ := by
  have m1 : op2 mulV (vE 2) (kE (.int 6007)) ⟨[.w a0, e1, .w (zW mx), e3, e4, .own (.lst (l.map zW)), .w (zW p)], h⟩ = .ok (iR (mx * 6007)) ⟨[.w a0, e1, .w (zW mx), e3, e4, .own (.lst (l.map zW)), .w (zW p)], h⟩ := op2_ev rfl rfl (mul_v (by decide))
  have m2 : op2 mulV (kE (.int 239)) (vE 6) ⟨[.w a0, e1, .w (zW mx), e3, e4, .own (.lst (l.map zW)), .w (zW p)], h⟩ = .ok (iR (239 * (p : Int))) ⟨[.w a0, e1, .w (zW mx), e3, e4, .own (.lst (l.map zW)), .w (zW p)], h⟩ := op2_ev rfl rfl (mul_v (by omega))
  have s1 := op2_ev (f := addV) (r := iR (mx * 6007 + 239 * (p : Int))) m1 m2 rfl
  have s3 := op2_ev (f := addV) (b := kE (.int 113)) (y := iR 113) (r := iR (mx * 6007 + 239 * (p : Int) + 113)) s1 rfl rfl
  have s4 := op1_ev (f1 := intV) (r := iR (mx * 6007 + 239 * (p : Int) + 113)) s3 rfl
  have s5 := op2_ev (f := modV) (b := kE (.int 2147482853)) (y := iR 2147482853) s4 rfl (mod_v (by decide))
  generalize hm : (mx * 6007 + 239 * (p : Int) + 113) % 2147482853 = mx' at s5
  have Bm := set_ev (i := 2) s5 (s2 := ⟨[.w a0, e1, .w (zW mx'), e3, e4, .own (.lst (l.map zW)), .w (zW p)], h⟩) rfl
  have v : op2 modV (op1 intV (op2 divV (vE 2) (kE (.int 421)))) (kE (.int 80)) ⟨[.w a0, e1, .w (zW mx'), e3, e4, .own (.lst (l.map zW)), .w (zW p)], h⟩ = .ok (iR (mx' / 421 % 80)) ⟨[.w a0, e1, .w (zW mx'), e3, e4, .own (.lst (l.map zW)), .w (zW p)], h⟩ := op2_ev (op1_ev (x := iR (mx' / 421)) (op2_ev rfl rfl (div_v (by decide) (by decide))) rfl) rfl (mod_v (by decide))
  refine ⟨mx', mx' / 421 % 80, seq_nx Bm (expr_ev (x := .w (.d .non)) (meth_ev rfl rfl (asC_ev v asN_ev) ?_))⟩
  show (if (l.map zW).length < LN then some _ else none) = _
  rw [if_pos (by rw [List.length_map]; show l.length < 16777216; omega), List.map_append]
  rfl

theorem p7_loop {a0 : W} {e1 e3 e4 : E0} {h : List O} : ∀ (ps : List Nat) (l : List Int) (mx : Int) (e6 : E0), (∀ p ∈ ps, p < 8) → l.length + ps.length < 1000 →
    ∃ (l' : List Int) (mx' : Int) (e6' : E0), forL none (tgV 6) P7 (ps.map iW) ⟨[.w a0, e1, .w (zW mx), e3, e4, .own (.lst (l.map zW)), e6], h⟩ = .nx ⟨[.w a0, e1, .w (zW mx'), e3, e4, .own (.lst (l'.map zW)), e6'], h⟩ ∧ l'.length = l.length + ps.length
  | [], l, mx, e6, _, _ => ⟨l, mx, e6, forL_nil rfl, rfl⟩
  | p :: ps, l, mx, e6, hp, hl => by
    simp only [List.length_cons] at hl
    obtain ⟨mx', v, T⟩ := p7_turn (a0 := a0) (l := l) (mx := mx) (p := p) (e1 := e1) (e3 := e3) (e4 := e4) (h := h) (by omega) (hp p List.mem_cons_self)
    obtain ⟨l2, mx2, e6', L, l3⟩ := p7_loop (a0 := a0) (e1 := e1) (e3 := e3) (e4 := e4) (h := h) ps (l ++ [v]) mx' (.w (zW p)) (fun q hq => hp q (List.mem_cons_of_mem _ hq)) (by rw [List.length_append]; simp only [List.length_cons, List.length_nil]; omega)
    refine ⟨l2, mx2, e6', forL_cons rfl rfl T L, ?_⟩
    rw [l3, List.length_append]
    simp only [List.length_cons, List.length_nil]
    omega
/-- _law_box -/
theorem box_sp (k : Nat) (ns : List Int) : ∃ (great leans : List Int) (mixed : Int) (h : List O), callF fns (k + 1) 46 [.scr ns] [] = .ok (.new (.lst [.ref 1, zW mixed, zW 7, .ref 2])) h ∧ h.length = 3 ∧ h[1]? = some (.lst (great.map zW)) ∧ h[2]? = some (.lst (leans.map zW)) ∧ great.length < 1000 ∧ leans.length = 8 := by
  have c0 := call_t k 46 1 7 B46 [.scr ns] [] rfl rfl
  have e : [W.scr ns].map E0.w ++ List.replicate (7 - 1) E0.un = [.w (.scr ns), .un, .un, .un, .un, .un, .un] := rfl
  rw [e] at c0
  have hcl : (Mn.cut ns none (some 50)).length ≤ 50 := by
    unfold Mn.cut
    rw [List.length_take]
    have : Mn.sIx ns.length ns.length (some 50) ≤ 50 := by
      show (if (50 : Int) < 0 then ((50 : Int) + (ns.length : Int)).toNat else min (50 : Int).toNat ns.length) ≤ 50
      rw [if_neg (by decide)]
      exact Nat.min_le_left _ _
    omega
  generalize hcs : Mn.cut ns none (some 50) = cs at hcl
  have it : itE (slE (vE 0) (noO) (someO (kE (.int 50)))) ⟨[.w (.scr ns), .own (.lst []), .w (zW 71011), .un, .un, .un, .un], []⟩ = .ok ⟨cs.map zW, some (0, .lst (cs.map zW))⟩ ⟨[.w (.scr ns), .own (.lst []), .w (zW 71011), .un, .un, .un, .un], [.lst (cs.map zW)]⟩ := by
    rw [← hcs]
    rfl
  obtain ⟨g', mx', e3', e4', L, gl⟩ := s7_loop (a0 := .scr ns) (e5 := .un) (e6 := .un) (h := [.lst (cs.map zW)]) (k := some (0, .lst (cs.map zW))) (fun ρ => by simp [kept]) cs [] 71011 .un .un (by simp only [List.length_nil]; omega)
  obtain ⟨l', mx2, e6', L2, ll⟩ := p7_loop (a0 := .scr ns) (e1 := .own (.lst (g'.map zW))) (e3 := e3') (e4 := e4') (h := [.lst (cs.map zW)]) (List.range 8) [] mx' .un (fun p hp => List.mem_range.mp hp) (by simp)
  have r0 : itR1 (kE (.int 8)) ⟨[.w (.scr ns), .own (.lst (g'.map zW)), .w (zW mx'), e3', e4', .own (.lst []), .un], [.lst (cs.map zW)]⟩ = .ok ⟨(List.range 8).map iW, none⟩ ⟨[.w (.scr ns), .own (.lst (g'.map zW)), .w (zW mx'), e3', e4', .own (.lst []), .un], [.lst (cs.map zW)]⟩ := itR1_ev (m := 8) rfl (small_ok (by decide) (by decide))
  have B : B46 (callF fns k) ⟨[.w (.scr ns), .un, .un, .un, .un, .un, .un], []⟩ = .rt (.new (.lst [.ref 1, zW mx2, zW 7, .ref 2])) ⟨[.w (.scr ns), .w (.ref 1), .w (zW mx2), e3', e4', .w (.ref 2), e6'], [.lst (cs.map zW), .lst (g'.map zW), .lst (l'.map zW)]⟩ :=
    seq_nx rfl (seq_nx rfl (seq_nx (for_ev it L) (seq_nx rfl (seq_nx (for_ev r0 L2) (ret_ev (lst_ev (ws := [.ref 1, zW mx2, zW 7, .ref 2]) (asC_ev rfl (asC_ev rfl (asC_ev rfl (asC_ev rfl asN_ev)))) rfl (by show 4 ≤ 16777216; omega)))))))
  rw [B] at c0
  exact ⟨g', l', mx2, _, c0, rfl, rfl, rfl, gl, by rw [ll]; simp⟩
/-- a comprehension without a test, the heap on its way -/
theorem lc_st {t : Tg} {e : Ex} {vs : List Nat} {G : S → Prop} {Q : D → Prop} (fr : ∀ s, G s → frees vs s = true) : ∀ (ws acc : List W) (s : S), G s →
    (∀ w ∈ ws, ∀ s, G s → ∃ (s1 s2 : S) (x : D), t (.w w) ⟨Mn.wipe vs s.ρ, s.h⟩ = some s1 ∧ e s1 = .ok (.w (.d x)) s2 ∧ G s2 ∧ Q x) → acc.length + ws.length < LN →
    ∃ (xs : List D) (s' : S), xs.length = ws.length ∧ (∀ x ∈ xs, Q x) ∧ G s' ∧ lcL none t yesT e vs ws acc s = some (acc ++ xs.map W.d, s')
  | [], acc, s, g, _, _ => by
    refine ⟨[], s, rfl, (fun _ h => by cases h), g, ?_⟩
    unfold lcL
    rw [if_pos (by rw [fr s g]; rfl)]
    simp
  | w :: ws, acc, s, g, st, hl => by
    simp only [List.length_cons] at hl
    obtain ⟨s1, s2, x, h1, h2, g2, q⟩ := st w List.mem_cons_self s g
    obtain ⟨xs, s', l1, l2, l3, l4⟩ := lc_st (t := t) (e := e) fr ws (acc ++ [.d x]) s2 g2 (fun w hw => st w (List.mem_cons_of_mem _ hw)) (by rw [List.length_append]; simp only [List.length_cons, List.length_nil]; omega)
    refine ⟨x :: xs, s', by simp [l1], fun y hy => ?_, l3, ?_⟩
    · rcases List.mem_cons.mp hy with rfl | hy
      · exact q
      · exact l2 y hy
    · unfold lcL
      rw [if_pos (by rw [fr s g]; rfl), h1]
      show (match e s1 with
        | .ok r s3 => (match boxR r s3 with
          | some (y, s4) => if acc.length < LN then lcL none t yesT e vs ws (acc ++ [y]) s4 else none
          | none => none)
        | _ => none) = _
      rw [h2]
      show (if acc.length < LN then lcL none t yesT e vs ws (acc ++ [.d x]) s2 else none) = _
      rw [if_pos (by omega), l4, List.append_assoc]
      rfl
theorem ld_call (k : Nat) {h : List O} {i gi li p : Nat} {v m : Int} (hv : v = (p : Int)) (S : Sc i gi li h) (hp : p < 8) (h1 : 1 ≤ m) (h2 : m ≤ 1000) :
    ∃ r h', callF fns (k + 1) 47 [.ref i, .d (.int v), .d (.int m)] h = .ok (iR r) h' ∧ Ld i gi li h h' ∧ 0 ≤ r ∧ r < m := by
  obtain ⟨great, mixed, cnt, leans, S⟩ := S
  subst hv
  exact pick_sp k S hp h1 h2
theorem Ld.refl {i gi li : Nat} {h : List O} (S : Sc i gi li h) : Ld i gi li h h := ⟨S, rfl, fun _ _ _ _ => rfl⟩
structure Gw (i gi li : Nat) (h h' : List O) : Prop where
  sc : Sc i gi li h'
  len : h.length ≤ h'.length
  oth : ∀ j, j < h.length → j ≠ i → j ≠ gi → j ≠ li → h'[j]? = h[j]?
theorem Ld.gw {i gi li : Nat} {h h' : List O} (l : Ld i gi li h h') : Gw i gi li h h' := ⟨l.sc, Nat.le_of_eq l.len.symm, fun j _ => l.oth j⟩
theorem Gw.trans {i gi li : Nat} {h h1 h2 : List O} (a : Gw i gi li h h1) (b : Gw i gi li h1 h2) : Gw i gi li h h2 :=
  ⟨b.sc, Nat.le_trans a.len b.len, fun j j0 j1 j2 j3 => (b.oth j (Nat.lt_of_lt_of_le j0 a.len) j1 j2 j3).trans (a.oth j j0 j1 j2 j3)⟩
theorem Gw.refl {i gi li : Nat} {h : List O} (S : Sc i gi li h) : Gw i gi li h h := ⟨S, Nat.le_refl _, fun _ _ _ _ _ => rfl⟩
theorem Sc.app {i gi li : Nat} {h : List O} (S : Sc i gi li h) (l : List O) : Gw i gi li h (h ++ l) := by
  obtain ⟨great, mixed, cnt, leans, S⟩ := S
  have k : ∀ j o, h[j]? = some o → (h ++ l)[j]? = some o := fun j o e => by rw [List.getElem?_append_left (List.getElem?_eq_some_iff.mp e).1]; exact e
  exact ⟨⟨great, mixed, cnt, leans, k _ _ S.at_, k _ _ S.g, k _ _ S.l, S.n1, S.n2, S.n3, S.len, S.few⟩, by simp, fun j j0 _ _ _ => List.getElem?_append_left j0⟩
end HeadT

set_option linter.all false
set_option maxRecDepth 100000
set_option maxHeartbeats 1000000
namespace HeadT
open Mn
-- MAC
local macro_rules
  | `(tactic| sizeOf_list_dec) => `(tactic| first | exact rfl | with_reducible assumption | exact decide_eq_true (by omega) | exact decide_eq_false (by omega) | (rw [Bool.not_eq_true']; exact decide_eq_false (by omega)) | (rw [Bool.not_eq_false']; exact decide_eq_true (by omega)) | (simp (config := { decide := true }) only [*, decide_true, decide_false, Bool.not_true, Bool.not_false]; done))
local macro_rules
  | `(tactic| array_mem_dec) => `(tactic| first
    | with_reducible exact len_map
    | with_reducible exact slV_take
    | with_reducible exact slV_drop
    | ((with_reducible apply slV_takez); omega)
    | ((with_reducible apply slV_dropz); omega)
    | ((with_reducible apply add_map); (try simp only [List.length_take, List.length_drop, List.length_append, List.length_cons, List.length_nil]); omega)
    | with_reducible exact eqV_pile
    | with_reducible exact neV_pile
    | with_reducible exact eqV_eff
    | ((with_reducible apply mul_v); omega)
    | ((with_reducible apply mul_one); omega)
    | ((with_reducible apply mul_tup); omega)
    | with_reducible exact tup_map
    | with_reducible exact eqV_int
    | with_reducible exact neV_int
    | ((with_reducible apply ins_slot); exact rfl; ((show (_ : Nat) < 16777216); (try simp only [List.length_map, List.length_append, List.length_cons, List.length_nil]); omega); omega; omega)
    | ((with_reducible apply str_v); assumption)
    | ((with_reducible apply isi_ref); assumption)
    | ((with_reducible apply add_tup); (try simp only [List.length_map, List.length_append, List.length_replicate, List.length_cons, List.length_nil]); omega)
    | ((with_reducible apply mod_v); omega)
    | ((with_reducible apply div_v) <;> omega)
    | ((with_reducible apply app_slot); exact rfl; (show (_ : Nat) < 16777216); (try simp only [List.length_map, List.length_append, List.length_cons, List.length_nil]); omega)
    | ((with_reducible apply pop_slot); exact rfl; omega; omega; first | assumption | exact rfl)
    | ((with_reducible apply putz_own); exact rfl; omega; (try simp only [List.length_set, List.length_map, List.length_append, List.length_replicate, List.length_cons, List.length_nil]); omega)
    | ((with_reducible apply putz_ref); assumption; omega; (try simp only [List.length_set, List.length_map, List.length_append, List.length_replicate, List.length_cons, List.length_nil]); omega)
    | ((with_reducible apply ixz_own); exact rfl; omega; first | assumption | exact rfl)
    | ((with_reducible apply ixz_tup); omega; first | assumption | exact rfl)
    | ((with_reducible apply ixz_ref); assumption; omega; first | assumption | exact rfl)
    | exact rfl
    | assumption)
local macro_rules
  | `(tactic| array_get_dec) => `(tactic| first
    | with_reducible exact kE_ev
    | ((with_reducible apply vE_w); exact rfl)
    | ((with_reducible apply vE_o); exact rfl)
    | ((with_reducible apply op2_ev); array_get_dec; array_get_dec; array_mem_dec)
    | ((with_reducible apply op1_ev); array_get_dec; array_mem_dec)
    | with_reducible exact asN_ev
    | ((with_reducible apply asC_ev); array_get_dec; array_get_dec)
    | ((with_reducible apply tupD_ev); array_get_dec; exact rfl; exact rfl; (show (_ : Nat) ≤ 16777216); simp)
    | ((with_reducible apply tup_ev); array_get_dec; exact rfl; (show (_ : Nat) ≤ 16777216); simp)
    | ((with_reducible apply lst_ev); array_get_dec; exact rfl; (show (_ : Nat) ≤ 16777216); simp)
    | ((with_reducible apply callH_ev); array_get_dec; exact rfl; first | (apply callV_p; exact rfl; assumption; exact rfl) | (apply callV_q; exact rfl; assumption))
    | ((with_reducible apply callE_q); array_get_dec; exact rfl; assumption)
    | ((with_reducible apply meth_ev); array_get_dec; (first | exact rfl | exact isl_ref (by assumption)); array_get_dec; array_mem_dec)
    | ((with_reducible apply tst_eq); array_get_dec; array_mem_dec; first | exact rfl | sizeOf_list_dec)
    | ((with_reducible apply notT_eq); array_get_dec; first | exact rfl | sizeOf_list_dec)
    | ((with_reducible apply and_c); array_get_dec; first | (left; refine ⟨?_, ?_⟩; sizeOf_list_dec; array_get_dec) | (right; refine ⟨?_, ?_⟩; sizeOf_list_dec; exact rfl))
    | ((with_reducible apply or_c); array_get_dec; first | (left; refine ⟨?_, ?_⟩; sizeOf_list_dec; exact rfl) | (right; refine ⟨?_, ?_⟩; sizeOf_list_dec; array_get_dec))
    | ((with_reducible apply andE_c); array_get_dec; array_mem_dec; first | (left; refine ⟨?_, ?_⟩; sizeOf_list_dec; array_get_dec) | (right; refine ⟨?_, ?_⟩; sizeOf_list_dec; exact rfl))
    | ((with_reducible apply orE_c); array_get_dec; array_mem_dec; first | (left; refine ⟨?_, ?_⟩; sizeOf_list_dec; exact rfl) | (right; refine ⟨?_, ?_⟩; sizeOf_list_dec; array_get_dec))
    | ((with_reducible apply chE_t); array_get_dec; array_get_dec; array_mem_dec; array_get_dec; array_mem_dec)
    | ((with_reducible apply chE_f); array_get_dec; array_get_dec; array_mem_dec)
    | ((with_reducible apply ite_c); array_get_dec; first | (left; refine ⟨?_, ?_⟩; sizeOf_list_dec; array_get_dec) | (right; refine ⟨?_, ?_⟩; sizeOf_list_dec; array_get_dec))
    | ((with_reducible apply lc_ev); array_get_dec; assumption)
    | ((with_reducible apply sl_ev); array_get_dec; array_get_dec; array_get_dec; array_mem_dec)
    | with_reducible exact no_ev
    | ((with_reducible apply some_ev); array_get_dec)
    | ((with_reducible apply itR1_z); array_get_dec; omega; omega)
    | ((with_reducible apply itE_ev); array_get_dec; exact rfl)
    | with_reducible exact nx_ev
    | ((with_reducible apply seq_nx); array_get_dec; array_get_dec)
    | ((with_reducible apply seq_rt); array_get_dec)
    | ((with_reducible apply if_c); array_get_dec; first | (left; refine ⟨?_, ?_⟩; sizeOf_list_dec; array_get_dec) | (right; refine ⟨?_, ?_⟩; sizeOf_list_dec; array_get_dec))
    | ((with_reducible apply ret_ev); array_get_dec)
    | ((with_reducible apply set_ev); array_get_dec; exact rfl)
    | ((with_reducible apply expr_ev); array_get_dec)
    | ((with_reducible apply unp_ev); array_get_dec; exact rfl)
    | ((with_reducible apply par_ev); array_get_dec; exact rfl; exact rfl; exact rfl)
    | ((with_reducible apply for_ev); array_get_dec; assumption)
    | ((with_reducible apply put_ev); array_get_dec; array_get_dec; array_get_dec; exact rfl; array_mem_dec))
-- ENDMAC
abbrev PK (call : Call) (v : Int) (e : Ex) : Ex := callH call 47 (asC (vE 0) (asC (kE (.int v)) (asC e asN)))
/-- a comprehension of draws -/
theorem picks (k : Nat) {ρ : List E0} {j i gi li p : Nat} {v m : Int} {e : Ex} (hv : v = (p : Int)) (hj : j < ρ.length) (ev0 : ∀ w h, vE 0 ⟨ρ.set j (.w w), h⟩ = .ok (.w (.ref i)) ⟨ρ.set j (.w w), h⟩) (eve : ∀ w h, e ⟨ρ.set j (.w w), h⟩ = .ok (iR m) ⟨ρ.set j (.w w), h⟩) (hp : p < 8) (h1 : 1 ≤ m) (h2 : m ≤ 1000) :
    ∀ (ws acc : List W) (e0 : E0) (h : List O), e0.free = true → Sc i gi li h → acc.length + ws.length ≤ LN →
    ∃ (is : List Int) (e1 : E0) (h' : List O), e1.free = true ∧ is.length = ws.length ∧ (∀ x ∈ is, 0 ≤ x ∧ x < m) ∧ Ld i gi li h h' ∧ lcL none (tgV j) yesT (PK (callF fns (k + 1)) v e) [j] ws acc ⟨ρ.set j e0, h⟩ = some (acc ++ (is.map D.int).map W.d, ⟨ρ.set j e1, h'⟩)
  | [], acc, e0, h, h0, S, hl => by
    refine ⟨[], e0, h, h0, rfl, (fun _ h => by cases h), Ld.refl S, ?_⟩
    show (if (kept _ none && frees [j] _) = true then _ else _) = _
    rw [if_pos (by simp [kept, frees, List.getD_eq_getElem?_getD, List.getElem?_set_self hj, h0])]
    simp
  | w :: ws, acc, e0, h, h0, S, hl => by
    simp only [List.length_cons] at hl
    obtain ⟨r, ha, C, ld, r1, r2⟩ := cl_pick k (s := ⟨ρ.set j (.w w), h⟩) hv (ev0 w h) (eve w h) S hp h1 h2
    obtain ⟨is, e1, h', f1, l1, q1, ld2, E⟩ := picks k hv hj ev0 eve hp h1 h2 ws (acc ++ [.d (.int r)]) (.w w) ha rfl ld.sc (by rw [List.length_append]; simp only [List.length_cons, List.length_nil]; omega)
    refine ⟨r :: is, e1, h', f1, by rw [List.length_cons, l1, List.length_cons], fun x hx => ?_, ld.trans ld2, ?_⟩
    · rcases List.mem_cons.mp hx with rfl | hx
      · exact ⟨r1, r2⟩
      · exact q1 x hx
    · unfold lcL
      rw [if_pos (by simp [kept, frees, List.getD_eq_getElem?_getD, List.getElem?_set_self hj, h0])]
      have a1 : tgV j (.w w) ⟨wipe [j] (ρ.set j e0), h⟩ = some ⟨ρ.set j (.w w), h⟩ := by
        show (if j < ((ρ.set j e0).set j .un).length then some (⟨((ρ.set j e0).set j .un).set j (.w w), h⟩ : Mn.S) else none) = _
        rw [if_pos (by simpa using hj), List.set_set, List.set_set]
      rw [a1]
      show (match PK (callF fns (k + 1)) v e ⟨ρ.set j (.w w), h⟩ with
          | .ok r s3 => (match boxR r s3 with
            | some (y, s4) => if acc.length < LN then lcL none (tgV j) yesT (PK (callF fns (k + 1)) v e) [j] ws (acc ++ [y]) s4 else none
            | none => none)
          | _ => none) = _
      rw [show PK (callF fns (k + 1)) v e ⟨ρ.set j (.w w), h⟩ = _ from C]
      show (if acc.length < LN then lcL none (tgV j) yesT (PK (callF fns (k + 1)) v e) [j] ws (acc ++ [.d (.int r)]) ⟨ρ.set j (.w w), ha⟩ else none) = _
      rw [if_pos (by omega), E, List.append_assoc]
      rfl
theorem tup_comp (k : Nat) {T : Ex} {cs : List D} {i gi li p q : Nat} {v u m : Int} {a1 : W} {e3 e4 e5 e6 e7 : E0} {h : List O} (hT : ∀ s, T s = .ok (.w (.d (.tup cs))) s) (hcs : ∀ r : Nat, r < 5 → ∃ c : Nat, c ≤ 3 ∧ cs[r]? = some (.int c)) (hv : v = (p : Int)) (hu : u = (q : Int)) (f7 : e7.free = true) (S : Sc i gi li h) (hp : p < 8) (hq : q < 8) (h1 : 1 ≤ m) (h2 : m ≤ 1000) :
    ∃ (is : List Int) (h' : List O), op1 tupleV (lcE (itR1 (op2 ixV T (PK (callF fns (k + 1)) v (kE (.int 5))))) (tgV 7) yesT (PK (callF fns (k + 1)) u (vE 2)) [7]) ⟨[.w (.ref i), .w a1, .w (zW m), e3, e4, e5, e6, e7], h⟩ = .ok (.w (.d (pD is))) ⟨[.w (.ref i), .w a1, .w (zW m), e3, e4, e5, e6, e7], h'⟩ ∧ Ld i gi li h h' ∧ is.length ≤ 3 := by
  obtain ⟨r, ha, C, ld, r1, r2⟩ := cl_pick k (s := ⟨[.w (.ref i), .w a1, .w (zW m), e3, e4, e5, e6, e7], h⟩) (e0 := vE 0) (e := kE (.int 5)) (m := 5) hv rfl rfl S hp (by decide) (by decide)
  obtain ⟨c, hc, ec⟩ := hcs r.toNat (by omega)
  have I := itR1_z (a := op2 ixV T (PK (callF fns (k + 1)) v (kE (.int 5)))) (m := (c : Int)) (op2_ev (hT _) C (ixz_tup r1 ec)) (by omega) (by omega)
  obtain ⟨is, e1, h', f1, l1, q1, ld2, E⟩ := picks k (ρ := [.w (.ref i), .w a1, .w (zW m), e3, e4, e5, e6, e7]) (j := 7) (i := i) (gi := gi) (li := li) (p := q) (v := u) (m := m) (e := vE 2) hu (by show 7 < 8; omega) (fun _ _ => rfl) (fun _ _ => rfl) hq h1 h2 ((List.range (c : Int).toNat).map iW) [] e7 ha f7 ld.sc (by simp only [List.length_map, List.length_range, List.length_nil]; show _ ≤ 16777216; omega)
  refine ⟨is, h', ?_, ld.trans ld2, by rw [l1]; simp; omega⟩
  exact op1_ev ((lc_ev I E).trans rfl) tup_map
abbrev kW (v : Int) : W := .d (.int v)
def Sm3 (ds : List Dd) : Prop := ∀ d ∈ ds, d.2.1.length ≤ 3 ∧ d.2.2.length ≤ 3
def I48 (i gi li many : Nat) (m : Int) (h0 : List O) (n : Nat) (s : Mn.S) : Prop :=
  ∃ (ds : List Dd) (e4 e5 e6 e7 : E0) (h : List O), s = ⟨[.w (.ref i), .w (iW many), .w (zW m), .own (.lst ((ds.map dD).map W.d)), e4, e5, e6, e7], h⟩ ∧ e7.free = true ∧ Ld i gi li h0 h ∧ ds.length = n ∧ Sm3 ds
abbrev nms : List (List Nat) := [[112], [116, 50], [120], [115, 119, 97, 112, 57], [113], [114, 101, 115, 116], [117], [118, 48]]
theorem b48_turn (k : Nat) {i gi li many n : Nat} {m : Int} {ds : List Dd} {e5 e6 e7 : E0} {h : List O} (S : Sc i gi li h) (f7 : e7.free = true) (hn : n < 8) (h1 : 1 ≤ m) (h2 : m ≤ 1000) (hd : ds.length ≤ 8) (s3 : Sm3 ds) :
    ∃ (ds' : List Dd) (e5' e6' : E0) (h' : List O), B48_1 (callF fns (k + 1)) ⟨[.w (.ref i), .w (iW many), .w (zW m), .own (.lst ((ds.map dD).map W.d)), .w (iW n), e5, e6, e7], h⟩ = .nx ⟨[.w (.ref i), .w (iW many), .w (zW m), .own (.lst ((ds'.map dD).map W.d)), .w (iW n), e5', e6', e7], h'⟩ ∧ Ld i gi li h h' ∧ ds'.length = ds.length + 1 ∧ Sm3 ds' := by
  obtain ⟨off, ha, C1, l1, b1⟩ := tup_comp k (T := tupE (asC (kE (.int 0)) (asC (kE (.int 1)) (asC (kE (.int 1)) (asC (kE (.int 2)) (asC (kE (.int 3)) (asN))))))) (cs := [.int 0, .int 1, .int 1, .int 2, .int 3]) (p := 1) (q := 0) (v := 1) (u := 0) (m := m) (a1 := iW many) (e3 := .own (.lst ((ds.map dD).map W.d))) (e4 := .w (iW n)) (e5 := e5) (e6 := e6) (e7 := e7) (fun _ => rfl) (fun r hr => by
    have : r = 0 ∨ r = 1 ∨ r = 2 ∨ r = 3 ∨ r = 4 := by omega
    rcases this with rfl | rfl | rfl | rfl | rfl
    · exact ⟨0, by omega, rfl⟩
    · exact ⟨1, by omega, rfl⟩
    · exact ⟨1, by omega, rfl⟩
    · exact ⟨2, by omega, rfl⟩
    · exact ⟨3, by omega, rfl⟩) rfl rfl f7 S (by omega) (by omega) h1 h2
  obtain ⟨on, hb, C2, l2, b2⟩ := tup_comp k (T := tupE (asC (kE (.int 1)) (asC (kE (.int 0)) (asC (kE (.int 2)) (asC (kE (.int 1)) (asC (kE (.int 3)) (asN))))))) (cs := [.int 1, .int 0, .int 2, .int 1, .int 3]) (p := 3) (q := 2) (v := 3) (u := 2) (m := m) (a1 := iW many) (e3 := .own (.lst ((ds.map dD).map W.d))) (e4 := .w (iW n)) (e5 := .w (.d (pD off))) (e6 := e6) (e7 := e7) (fun _ => rfl) (fun r hr => by
    have : r = 0 ∨ r = 1 ∨ r = 2 ∨ r = 3 ∨ r = 4 := by omega
    rcases this with rfl | rfl | rfl | rfl | rfl
    · exact ⟨1, by omega, rfl⟩
    · exact ⟨0, by omega, rfl⟩
    · exact ⟨2, by omega, rfl⟩
    · exact ⟨1, by omega, rfl⟩
    · exact ⟨3, by omega, rfl⟩) rfl rfl f7 l1.sc (by omega) (by omega) h1 h2
  obtain ⟨nm, hnm⟩ : ∃ nm : List Nat, [D.str [112], .str [116, 50], .str [120], .str [115, 119, 97, 112, 57], .str [113], .str [114, 101, 115, 116], .str [117], .str [118, 48]][n]? = some (.str nm) := by
    have : n = 0 ∨ n = 1 ∨ n = 2 ∨ n = 3 ∨ n = 4 ∨ n = 5 ∨ n = 6 ∨ n = 7 := by omega
    rcases this with rfl | rfl | rfl | rfl | rfl | rfl | rfl | rfl <;> exact ⟨_, rfl⟩
  have hnm' : [D.str [112], .str [116, 50], .str [120], .str [115, 119, 97, 112, 57], .str [113], .str [114, 101, 115, 116], .str [117], .str [118, 48]][(n : Int).toNat]? = some (.str nm) := by rw [Int.toNat_natCast]; exact hnm
  refine ⟨ds ++ [(nm, (off, on))], .w (.d (pD off)), .w (.d (pD on)), hb, ?_, l1.trans l2, by simp, fun d hd => ?_⟩
  · unfold B48_1
    refine seq_nx (set_ev C1 (s2 := ⟨[.w (.ref i), .w (iW many), .w (zW m), .own (.lst ((ds.map dD).map W.d)), .w (iW n), .w (.d (pD off)), e6, e7], ha⟩) rfl) (seq_nx (set_ev C2 (s2 := ⟨[.w (.ref i), .w (iW many), .w (zW m), .own (.lst ((ds.map dD).map W.d)), .w (iW n), .w (.d (pD off)), .w (.d (pD on)), e7], hb⟩) rfl) ?_)
    rw [List.map_append, List.map_append]
    apply nx_as
    · array_get_dec
    · rfl
  · rcases List.mem_append.mp hd with hd | hd
    · exact s3 d hd
    · cases List.mem_singleton.mp hd
      exact ⟨b1, b2⟩
theorem deeds_sp (k : Nat) {i gi li many : Nat} {m : Int} {h : List O} (S : Sc i gi li h) (hm : many ≤ 8) (h1 : 1 ≤ m) (h2 : m ≤ 1000) :
    ∃ (ds : List Dd) (h' : List O), callF fns (k + 2) 48 [.ref i, iW many, zW m] h = .ok (.w (.d (dsD ds))) h' ∧ Ld i gi li h h' ∧ ds.length = many ∧ Sm3 ds := by
  obtain ⟨s', L, ds, e4, e5, e6, e7, h', rfl, f7, ld, len, s3⟩ := forL_inv (k := none) (g := tgV 4) (p := B48_1 (callF fns (k + 1))) (I := I48 i gi li many m h) ((List.range many).map iW) 0 (fun _ _ _ => rfl) (fun n s w hw hI => by
    obtain ⟨ds, e4, e5, e6, e7, h', rfl, f7, ld, len, s3⟩ := hI
    have hn := (List.getElem?_eq_some_iff.mp hw).1
    rw [List.length_map, List.length_range] at hn
    have ew : w = iW n := by
      rw [List.getElem?_map, List.getElem?_eq_getElem (by rw [List.length_range]; exact hn)] at hw
      simpa using hw.symm
    subst ew
    obtain ⟨ds', e5', e6', h2', T, l2, len2, s32⟩ := b48_turn k (many := many) (n := n) (m := m) (ds := ds) (e5 := e5) (e6 := e6) (e7 := e7) ld.sc f7 (by omega) h1 h2 (by omega) s3
    exact ⟨_, _, rfl, T, ds', .w (iW n), e5', e6', e7, h2', rfl, f7, ld.trans l2, by omega, s32⟩) (s := ⟨[.w (.ref i), .w (iW many), .w (zW m), .own (.lst []), .un, .un, .un, .un], h⟩) ⟨[], .un, .un, .un, .un, h, rfl, rfl, Ld.refl S, rfl, fun _ h => by cases h⟩
  refine ⟨ds, h', ?_, ld, by rw [len]; simp, s3⟩
  apply call_ex (B := B48) (ρ := [.w (.ref i), .w (iW many), .w (zW m), .un, .un, .un, .un, .un]) rfl rfl rfl
  refine ⟨.w (.d (dsD ds)), ⟨[.w (.ref i), .w (iW many), .w (zW m), .own (.lst ((ds.map dD).map W.d)), e4, e5, e6, e7], h'⟩, ?_, rfl⟩
  unfold B48
  refine seq_nx (s1 := ⟨[.w (.ref i), .w (iW many), .w (zW m), .own (.lst []), .un, .un, .un, .un], h⟩) rfl (seq_nx (for_ev (itR1_z rfl (by omega) (by omega)) (by rw [Int.toNat_natCast]; exact L)) (ret_ev (op1_ev rfl ?_)))
  show (seqR _ (.slot 3)).map (fun p => R.w (mkTup p.2)) = _
  show some (R.w (mkTup ((ds.map dD).map W.d))) = _
  rw [mkTup_map]
theorem b49_ev {call : Call} {i : Nat} {m r : Int} {ds : List Dd} {h ha : List O} (C : call 47 [.ref i, .d (.int 4), .d (.int 2)] h = .ok (iR r) ha) (hr : r = 0 ∨ r = 1) :
    ∃ x st, B49 call ⟨[.w (.ref i), .w (.d (dsD ds)), .w (zW m), .un, .un], h⟩ = .rt x st ∧ ((∃ kk nn bb, x = .w (.d (prD kk nn bb ds))) ∧ st.h = ha) := by
  rcases hr with rfl | rfl
  · apply ex2
    · unfold B49
      array_get_dec
    · exact ⟨⟨_, _, _, rfl⟩, rfl⟩
  · apply ex2
    · unfold B49
      array_get_dec
    · exact ⟨⟨_, _, _, rfl⟩, rfl⟩
/-- _law_program -/
theorem program_sp (k : Nat) {i gi li : Nat} {m : Int} {ds : List Dd} {h : List O} (S : Sc i gi li h) :
    ∃ (kk nn bb : D) (h' : List O), callF fns (k + 2) 49 [.ref i, .d (dsD ds), zW m] h = .ok (.w (.d (prD kk nn bb ds))) h' ∧ Ld i gi li h h' := by
  obtain ⟨r, ha, C, ld, r1, r2⟩ := ld_call k (p := 4) (v := 4) (m := 2) rfl S (by omega) (by omega) (by omega)
  obtain ⟨_, st, B, ⟨kk, nn, bb, rfl⟩, rfl⟩ := b49_ev (m := m) (ds := ds) C (by omega)
  exact ⟨kk, nn, bb, st.h, call_ex (B := B49) (ρ := [.w (.ref i), .w (.d (dsD ds)), .w (zW m), .un, .un]) rfl rfl rfl ⟨_, _, B, rfl⟩, ld⟩
end HeadT

set_option linter.all false
set_option maxRecDepth 100000
set_option maxHeartbeats 1000000
namespace HeadT
open Mn
-- MAC
local macro_rules
  | `(tactic| sizeOf_list_dec) => `(tactic| first | exact rfl | with_reducible assumption | exact decide_eq_true (by omega) | exact decide_eq_false (by omega) | (rw [Bool.not_eq_true']; exact decide_eq_false (by omega)) | (rw [Bool.not_eq_false']; exact decide_eq_true (by omega)) | (simp (config := { decide := true }) only [*, decide_true, decide_false, Bool.not_true, Bool.not_false]; done))
local macro_rules
  | `(tactic| array_mem_dec) => `(tactic| first
    | with_reducible exact len_map
    | with_reducible exact slV_take
    | with_reducible exact slV_drop
    | ((with_reducible apply slV_takez); omega)
    | ((with_reducible apply slV_dropz); omega)
    | ((with_reducible apply add_map); (try simp only [List.length_take, List.length_drop, List.length_append, List.length_cons, List.length_nil]); omega)
    | with_reducible exact eqV_pile
    | with_reducible exact neV_pile
    | with_reducible exact eqV_eff
    | ((with_reducible apply mul_v); omega)
    | ((with_reducible apply mul_one); omega)
    | ((with_reducible apply mul_tup); omega)
    | with_reducible exact tup_map
    | with_reducible exact eqV_int
    | with_reducible exact neV_int
    | ((with_reducible apply ins_slot); exact rfl; ((show (_ : Nat) < 16777216); (try simp only [List.length_map, List.length_append, List.length_cons, List.length_nil]); omega); omega; omega)
    | ((with_reducible apply str_v); assumption)
    | ((with_reducible apply isi_ref); assumption)
    | ((with_reducible apply add_tup); (try simp only [List.length_map, List.length_append, List.length_replicate, List.length_cons, List.length_nil]); omega)
    | ((with_reducible apply mod_v); omega)
    | ((with_reducible apply div_v) <;> omega)
    | ((with_reducible apply app_slot); exact rfl; (show (_ : Nat) < 16777216); (try simp only [List.length_map, List.length_append, List.length_cons, List.length_nil]); omega)
    | ((with_reducible apply pop_slot); exact rfl; omega; omega; first | assumption | exact rfl)
    | ((with_reducible apply putz_own); exact rfl; omega; (try simp only [List.length_set, List.length_map, List.length_append, List.length_replicate, List.length_cons, List.length_nil]); omega)
    | ((with_reducible apply putz_ref); assumption; omega; (try simp only [List.length_set, List.length_map, List.length_append, List.length_replicate, List.length_cons, List.length_nil]); omega)
    | ((with_reducible apply ixz_own); exact rfl; omega; first | assumption | exact rfl)
    | ((with_reducible apply ixz_tup); omega; first | assumption | exact rfl)
    | ((with_reducible apply ixz_ref); assumption; omega; first | assumption | exact rfl)
    | exact rfl
    | assumption)
local macro_rules
  | `(tactic| array_get_dec) => `(tactic| first
    | with_reducible exact kE_ev
    | ((with_reducible apply vE_w); exact rfl)
    | ((with_reducible apply vE_o); exact rfl)
    | ((with_reducible apply op2_ev); array_get_dec; array_get_dec; array_mem_dec)
    | ((with_reducible apply op1_ev); array_get_dec; array_mem_dec)
    | with_reducible exact asN_ev
    | ((with_reducible apply asC_ev); array_get_dec; array_get_dec)
    | ((with_reducible apply tupD_ev); array_get_dec; exact rfl; exact rfl; (show (_ : Nat) ≤ 16777216); simp)
    | ((with_reducible apply tup_ev); array_get_dec; exact rfl; (show (_ : Nat) ≤ 16777216); simp)
    | ((with_reducible apply lst_ev); array_get_dec; exact rfl; (show (_ : Nat) ≤ 16777216); simp)
    | ((with_reducible apply callH_ev); array_get_dec; exact rfl; first | (apply callV_p; exact rfl; assumption; exact rfl) | (apply callV_q; exact rfl; assumption))
    | ((with_reducible apply callE_q); array_get_dec; exact rfl; assumption)
    | ((with_reducible apply meth_ev); array_get_dec; (first | exact rfl | exact isl_ref (by assumption)); array_get_dec; array_mem_dec)
    | ((with_reducible apply tst_eq); array_get_dec; array_mem_dec; first | exact rfl | sizeOf_list_dec)
    | ((with_reducible apply notT_eq); array_get_dec; first | exact rfl | sizeOf_list_dec)
    | ((with_reducible apply and_c); array_get_dec; first | (left; refine ⟨?_, ?_⟩; sizeOf_list_dec; array_get_dec) | (right; refine ⟨?_, ?_⟩; sizeOf_list_dec; exact rfl))
    | ((with_reducible apply or_c); array_get_dec; first | (left; refine ⟨?_, ?_⟩; sizeOf_list_dec; exact rfl) | (right; refine ⟨?_, ?_⟩; sizeOf_list_dec; array_get_dec))
    | ((with_reducible apply andE_c); array_get_dec; array_mem_dec; first | (left; refine ⟨?_, ?_⟩; sizeOf_list_dec; array_get_dec) | (right; refine ⟨?_, ?_⟩; sizeOf_list_dec; exact rfl))
    | ((with_reducible apply orE_c); array_get_dec; array_mem_dec; first | (left; refine ⟨?_, ?_⟩; sizeOf_list_dec; exact rfl) | (right; refine ⟨?_, ?_⟩; sizeOf_list_dec; array_get_dec))
    | ((with_reducible apply chE_t); array_get_dec; array_get_dec; array_mem_dec; array_get_dec; array_mem_dec)
    | ((with_reducible apply chE_f); array_get_dec; array_get_dec; array_mem_dec)
    | ((with_reducible apply ite_c); array_get_dec; first | (left; refine ⟨?_, ?_⟩; sizeOf_list_dec; array_get_dec) | (right; refine ⟨?_, ?_⟩; sizeOf_list_dec; array_get_dec))
    | ((with_reducible apply lc_ev); array_get_dec; assumption)
    | ((with_reducible apply sl_ev); array_get_dec; array_get_dec; array_get_dec; array_mem_dec)
    | with_reducible exact no_ev
    | ((with_reducible apply some_ev); array_get_dec)
    | ((with_reducible apply itR1_z); array_get_dec; omega; omega)
    | ((with_reducible apply itE_ev); array_get_dec; exact rfl)
    | with_reducible exact nx_ev
    | ((with_reducible apply seq_nx); array_get_dec; array_get_dec)
    | ((with_reducible apply seq_rt); array_get_dec)
    | ((with_reducible apply if_c); array_get_dec; first | (left; refine ⟨?_, ?_⟩; sizeOf_list_dec; array_get_dec) | (right; refine ⟨?_, ?_⟩; sizeOf_list_dec; array_get_dec))
    | ((with_reducible apply ret_ev); array_get_dec)
    | ((with_reducible apply set_ev); array_get_dec; exact rfl)
    | ((with_reducible apply expr_ev); array_get_dec)
    | ((with_reducible apply unp_ev); array_get_dec; exact rfl)
    | ((with_reducible apply par_ev); array_get_dec; exact rfl; exact rfl; exact rfl)
    | ((with_reducible apply for_ev); array_get_dec; assumption)
    | ((with_reducible apply put_ev); array_get_dec; array_get_dec; array_get_dec; exact rfl; array_mem_dec))
-- ENDMAC
abbrev C56 (call : Call) : Tm := tst (op2 isntV (callH call 50 (asC (vE 4) (asC (tupE (asC (op2 ixV (op2 ixV (vE 1) (vE 7)) (kE (.int 1))) (asC (op2 ixV (op2 ixV (vE 1) (vE 7)) (kE (.int 2))) (asN)))) (asN)))) (kE .non))
abbrev S56 (i : Nat) (ds : List Dd) (most : Nat) (r : List Nat) (t : D) (lap : Nat) (e6 e7 : E0) (h : List O) : Mn.S := ⟨[.w (.ref i), .w (.d (dsD ds)), .w (iW most), .w (.d (rwD r)), .w (.d t), .w (iW lap), e6, e7], h⟩
theorem c56_ev (k : Nat) {i most lap d : Nat} {ds : List Dd} {r : List Nat} {a : Eff} {e6 : E0} {h : List O} (sm : Sm ds) (hd : d < ds.length) (ha : a.1.length ≤ 99000 ∧ a.2.length ≤ 99000) :
    C56 (callF fns (k + 1)) (S56 i ds most r (eD a) lap e6 (.w (iW d)) h) = .ok (jn a (ef ds d)).isSome (S56 i ds most r (eD a) lap e6 (.w (iW d)) h) := by
  obtain ⟨nm, e, x, e2, hm⟩ := ds_get hd
  have s1 := sm _ hm
  simp only at s1
  obtain ⟨h1, C⟩ := ljoined_sp k a e ⟨by omega, by omega⟩ ⟨by omega, by omega⟩
  rw [e2]
  cases q : jn a e with
  | none =>
    rw [q] at C
    have C : callF fns (k + 1) 50 [.d (eD a), .d (eD e)] [] = .ok (.w (.d .non)) h1 := C
    generalize callF fns (k + 1) = call at *
    array_get_dec
  | some b =>
    rw [q] at C
    have C : callF fns (k + 1) 50 [.d (eD a), .d (eD e)] [] = .ok (.w (.d (eD b))) h1 := C
    generalize callF fns (k + 1) = call at *
    array_get_dec
theorem comp56 (k : Nat) {i most lap : Nat} {ds : List Dd} {r : List Nat} {a : Eff} {e6 : E0} {h : List O} (sm : Sm ds) (ha : a.1.length ≤ 99000 ∧ a.2.length ≤ 99000) :
    ∀ (ws : List Nat) (acc : List W) (e7 : E0), e7.free = true → (∀ d ∈ ws, d < ds.length) → acc.length + ws.length ≤ LN →
    ∃ (ss : List Nat) (e7' : E0), e7'.free = true ∧ (∀ d ∈ ss, d < ds.length) ∧ ss.length ≤ ws.length ∧ lcL none (tgV 7) (C56 (callF fns (k + 1))) (vE 7) [7] (ws.map iW) acc (S56 i ds most r (eD a) lap e6 e7 h) = some (acc ++ ss.map iW, S56 i ds most r (eD a) lap e6 e7' h)
  | [], acc, e7, f7, hw, hl => by
    refine ⟨[], e7, f7, (fun _ h => by cases h), Nat.le_refl _, ?_⟩
    show (if (kept _ none && frees [7] _) = true then _ else _) = _
    rw [if_pos (by simp [kept, frees, f7])]
    simp
  | d :: ws, acc, e7, f7, hw, hl => by
    simp only [List.length_cons] at hl
    have T := c56_ev k (i := i) (most := most) (lap := lap) (r := r) (e6 := e6) (h := h) sm (hw d List.mem_cons_self) ha
    have hw' : ∀ d ∈ ws, d < ds.length := fun x hx => hw x (List.mem_cons_of_mem _ hx)
    have a1 : tgV 7 (.w (iW d)) ⟨wipe [7] (S56 i ds most r (eD a) lap e6 e7 h).ρ, h⟩ = some (S56 i ds most r (eD a) lap e6 (.w (iW d)) h) := rfl
    have st : lcL none (tgV 7) (C56 (callF fns (k + 1))) (vE 7) [7] ((d :: ws).map iW) acc (S56 i ds most r (eD a) lap e6 e7 h) = (match C56 (callF fns (k + 1)) (S56 i ds most r (eD a) lap e6 (.w (iW d)) h) with
      | .ok true s2 => (match vE 7 s2 with
        | .ok r s3 => (match boxR r s3 with
          | some (y, s4) => if acc.length < LN then lcL none (tgV 7) (C56 (callF fns (k + 1))) (vE 7) [7] (ws.map iW) (acc ++ [y]) s4 else none
          | none => none)
        | _ => none)
      | .ok false s2 => lcL none (tgV 7) (C56 (callF fns (k + 1))) (vE 7) [7] (ws.map iW) acc s2
      | _ => none) := by
      show lcL none (tgV 7) (C56 (callF fns (k + 1))) (vE 7) [7] (iW d :: ws.map iW) acc (S56 i ds most r (eD a) lap e6 e7 h) = _
      conv => lhs; unfold lcL
      rw [if_pos (by simp [kept, frees, f7])]
      rw [show tgV 7 (.w (iW d)) ⟨wipe [7] (S56 i ds most r (eD a) lap e6 e7 h).ρ, (S56 i ds most r (eD a) lap e6 e7 h).h⟩ = _ from a1]
      try rfl
    rw [st, T]
    cases q : (jn a (ef ds d)).isSome with
    | false =>
      obtain ⟨ss, e7', g1, g2, g3, E⟩ := comp56 k sm ha ws acc (.w (iW d)) rfl hw' (by omega)
      exact ⟨ss, e7', g1, g2, by simp only [List.length_cons]; omega, E⟩
    | true =>
      obtain ⟨ss, e7', g1, g2, g3, E⟩ := comp56 k sm ha ws (acc ++ [iW d]) (.w (iW d)) rfl hw' (by rw [List.length_append]; simp only [List.length_cons, List.length_nil]; omega)
      refine ⟨d :: ss, e7', g1, fun x hx => ?_, by simp only [List.length_cons]; omega, ?_⟩
      · rcases List.mem_cons.mp hx with rfl | hx
        · exact hw x List.mem_cons_self
        · exact g2 x hx
      · show (if acc.length < LN then lcL none (tgV 7) (C56 (callF fns (k + 1))) (vE 7) [7] (ws.map iW) (acc ++ [iW d]) (S56 i ds most r (eD a) lap e6 (.w (iW d)) h) else none) = _
        rw [if_pos (by omega), E, List.append_assoc]
        rfl
theorem ix_last {s : Mn.S} {xs : List D} {x : D} : ixV s (.w (.d (.tup (xs ++ [x])))) (iR (-1)) = some (.w (.d x)) := by
  show ((atI (xs ++ [x]) (-1)).map fun x => R.w (.d x)) = _
  have : ixN (xs ++ [x]).length (-1) = some xs.length := by
    unfold ixN
    rw [if_neg (by decide), List.length_append]
    simp
    omega
  unfold atI
  rw [this]
  simp
abbrev I56 (call : Call) : Mn.St := (ifS (orT (tst (op2 eqV (callH call 47 (asC (vE 0) (asC (kE (.int 6)) (asC (kE (.int 9)) (asN))))) (kE (.int 4)))) (notT (tst (vE 6)))) (setS 6 (op1 lrngV (op1 lenV (vE 1)))) (nxS))
theorem i56_ev (k : Nat) {i gi li most lap : Nat} {ds : List Dd} {r ss : List Nat} {t : D} {e7 : E0} {h : List O} (S : Sc i gi li h) (hd1 : 1 ≤ ds.length) (hd : ds.length ≤ 8) (hs : ∀ d ∈ ss, d < ds.length) (hl : ss.length ≤ ds.length) :
    ∃ (ss' : List Nat) (h' : List O), I56 (callF fns (k + 1)) (S56 i ds most r t lap (.own (.lst (ss.map iW))) e7 h) = .nx (S56 i ds most r t lap (.own (.lst (ss'.map iW))) e7 h') ∧ Ld i gi li h h' ∧ 1 ≤ ss'.length ∧ ss'.length ≤ 8 ∧ ∀ d ∈ ss', d < ds.length := by
  obtain ⟨x, ha, C, ld, r1, r2⟩ := ld_call k (p := 6) (v := 6) (m := 9) rfl S (by omega) (by omega) (by omega)
  have A : setS 6 (op1 lrngV (op1 lenV (vE 1))) (S56 i ds most r t lap (.own (.lst (ss.map iW))) e7 ha) = .nx (S56 i ds most r t lap (.own (.lst ((List.range ds.length).map iW))) e7 ha) := by
    refine set_ev (x := .new (.lst ((List.range ds.length).map iW))) (op1_ev (op1_ev (vE_w rfl) len_map) ?_) rfl
    show (if -(2 ^ 62) ≤ ((ds.length : Nat) : Int) ∧ ((ds.length : Nat) : Int) ≤ 16777216 then some (R.new (.lst ((List.range ((ds.length : Nat) : Int).toNat).map fun i : Nat => W.d (.int (i : Int))))) else none) = _
    rw [if_pos ⟨by omega, by omega⟩, Int.toNat_natCast]
  have lr : 1 ≤ (List.range ds.length).length ∧ (List.range ds.length).length ≤ 8 := by rw [List.length_range]; exact ⟨hd1, hd⟩
  have P : op2 eqV (callH (callF fns (k + 1)) 47 (asC (vE 0) (asC (kE (.int 6)) (asC (kE (.int 9)) (asN))))) (kE (.int 4)) (S56 i ds most r t lap (.own (.lst (ss.map iW))) e7 h) = .ok (bR (decide (x = 4))) (S56 i ds most r t lap (.own (.lst (ss.map iW))) e7 ha) := by
    clear A
    generalize callF fns (k + 1) = call at *
    array_get_dec
  by_cases q : x = 4
  · exact ⟨List.range ds.length, ha, if_t (orT_t (tst_eq P rfl (decide_eq_true q))) A, ld, lr.1, lr.2, fun d hd => List.mem_range.mp hd⟩
  · cases ss with
    | nil => exact ⟨List.range ds.length, ha, if_t (orT_f (tst_eq P rfl (decide_eq_false q)) rfl) A, ld, lr.1, lr.2, fun d hd => List.mem_range.mp hd⟩
    | cons d0 ss => exact ⟨d0 :: ss, ha, if_f (orT_f (tst_eq P rfl (decide_eq_false q)) rfl) rfl, ld, by simp, by omega, hs⟩
theorem b56_turn (k : Nat) {i gi li most lap : Nat} {ds : List Dd} {r : List Nat} {a : Eff} {e6 e7 : E0} {h : List O} (S : Sc i gi li h) (sm : Sm ds) (hd1 : 1 ≤ ds.length) (hd : ds.length ≤ 8) (hl : r.length ≤ 900) (ha : a.1.length ≤ 99000 ∧ a.2.length ≤ 99000) (f7 : e7.free = true) :
    ∃ (d : Nat) (e6' e7' : E0) (h' : List O), d < ds.length ∧ Ld i gi li h h' ∧ e7'.free = true ∧
      (B56_1 (callF fns (k + 1)) (S56 i ds most r (eD a) lap e6 e7 h) = .bk (S56 i ds most (r ++ [d]) .non lap e6' e7' h') ∨
       ∃ b, jn a (ef ds d) = some b ∧ B56_1 (callF fns (k + 1)) (S56 i ds most r (eD a) lap e6 e7 h) = .nx (S56 i ds most (r ++ [d]) (eD b) lap e6' e7' h')) := by
  obtain ⟨ss, e7', g1, g2, g3, E⟩ := comp56 k (i := i) (most := most) (lap := lap) (r := r) (e6 := e6) (h := h) sm ha (List.range ds.length) [] e7 f7 (fun d hd => List.mem_range.mp hd) (by simp only [List.length_range, List.length_nil]; show _ ≤ 16777216; omega)
  rw [List.length_range] at g3
  have L1 : setS 6 (lcE (itR1 (op1 lenV (vE 1))) (tgV 7) (C56 (callF fns (k + 1))) (vE 7) [7]) (S56 i ds most r (eD a) lap e6 e7 h) = .nx (S56 i ds most r (eD a) lap (.own (.lst (ss.map iW))) e7 h) := by
    refine set_ev ((lc_ev (itR1_z (m := (ds.length : Nat)) (op1_ev (vE_w rfl) len_map) (by omega) (by omega)) (by rw [Int.toNat_natCast]; exact E)).trans rfl) rfl
  obtain ⟨ss', hb, L2, l2, q1, q2, q3⟩ := i56_ev k (most := most) (lap := lap) (r := r) (t := eD a) (e7 := e7) S hd1 hd g2 g3
  have hlen : (ss'.map iW).length = ss'.length := List.length_map _
  obtain ⟨x, hc, C, l3, r1, r2⟩ := ld_call k (p := 7) (v := 7) (m := ((ss'.map iW).length : Nat)) rfl l2.sc (by omega) (by omega) (by omega)
  have hx : x.toNat < ss'.length := by omega
  have hdx : ss'[x.toNat] < ds.length := q3 _ (List.getElem_mem hx)
  have gx : (ss'.map iW)[x.toNat]? = some (iW ss'[x.toNat]) := by rw [List.getElem?_map, List.getElem?_eq_getElem hx]; rfl
  generalize ss'[x.toNat] = d at *
  have hrl : (r.map nI).length = r.length := List.length_map _
  have L3 : setS 3 (op2 addV (vE 3) (tupE (asC (op2 ixV (vE 6) (callH (callF fns (k + 1)) 47 (asC (vE 0) (asC (kE (.int 7)) (asC (op1 lenV (vE 6)) (asN)))))) (asN)))) (S56 i ds most r (eD a) lap (.own (.lst (ss'.map iW))) e7 hb) = .nx (S56 i ds most (r ++ [d]) (eD a) lap (.own (.lst (ss'.map iW))) e7 hc) := by
    clear L1 L2 E
    generalize callF fns (k + 1) = call at *
    apply nx_as
    · array_get_dec
    · show _ = S56 i ds most (r ++ [d]) (eD a) lap (.own (.lst (ss'.map iW))) e7 hc
      unfold S56 rwD
      rw [List.map_append]
      rfl
  obtain ⟨nm, e, gd, e2, hm⟩ := ds_get hdx
  have s1 := sm _ hm
  simp only at s1
  obtain ⟨hz, CJ⟩ := ljoined_sp k a e ⟨by omega, by omega⟩ ⟨by omega, by omega⟩
  have il := ix_last (s := S56 i ds most (r ++ [d]) (eD a) lap (.own (.lst (ss'.map iW))) e7 hc) (xs := r.map nI) (x := nI d)
  rw [← show rwD (r ++ [d]) = .tup (r.map nI ++ [nI d]) by unfold rwD; rw [List.map_append]; rfl] at il
  rw [← e2] at CJ
  refine ⟨d, .own (.lst (ss'.map iW)), e7, hc, hdx, l2.trans l3, f7, ?_⟩
  cases q : jn a (ef ds d) with
  | none =>
    left
    rw [q] at CJ
    have CJ : callF fns (k + 1) 50 [.d (eD a), .d (eD (ef ds d))] [] = .ok (.w (.d .non)) hz := CJ
    unfold B56_1
    refine seq_nx L1 (seq_nx L2 (seq_nx L3 ?_))
    clear L1 L2 L3 E
    rw [e2] at CJ
    generalize callF fns (k + 1) = call at *
    apply seq_nx
    · array_get_dec
    · exact if_t (tst_eq (op2_ev (vE_w rfl) kE_ev rfl) rfl rfl) rfl
  | some b =>
    right
    refine ⟨b, rfl, ?_⟩
    rw [q] at CJ
    have CJ : callF fns (k + 1) 50 [.d (eD a), .d (eD (ef ds d))] [] = .ok (.w (.d (eD b))) hz := CJ
    unfold B56_1
    refine seq_nx L1 (seq_nx L2 (seq_nx L3 ?_))
    clear L1 L2 L3 E
    rw [e2] at CJ
    generalize callF fns (k + 1) = call at *
    apply seq_nx
    · array_get_dec
    · exact if_f (tst_eq (op2_ev (vE_w rfl) kE_ev rfl) rfl rfl) rfl
theorem forL_bk {s s1 s2 : Mn.S} {p : Mn.St} {k : Option (Nat × O)} {g : Tg} {w : W} {ws : List W} (h : kept s k = true) (h1 : g (.w w) s = some s1) (h2 : p s1 = .bk s2) : forL k g p (w :: ws) s = .nx s2 := by
  show (if kept s k then (match g (.w w) s with
    | some s1 => turnO (forL k g p ws) (p s1)
    | none => .bad) else .bad) = _
  rw [if_pos h, h1]
  show turnO (forL k g p ws) (p s1) = _
  rw [h2]; rfl
theorem b56_loop (k : Nat) {i gi li most : Nat} {ds : List Dd} (sm : Sm ds) (hd1 : 1 ≤ ds.length) (hd : ds.length ≤ 8) : ∀ (laps : List Nat) (r : List Nat) (a : Eff) (m : Nat) (e5 e6 e7 : E0) (h : List O), Sc i gi li h → In ds r → r.length + laps.length ≤ 900 → a.1.length ≤ m ∧ a.2.length ≤ m → m + laps.length * 100 ≤ 99000 → e7.free = true →
    ∃ (r' : List Nat) (st : Mn.S), forL none (tgV 5) (B56_1 (callF fns (k + 1))) (laps.map iW) ⟨[.w (.ref i), .w (.d (dsD ds)), .w (iW most), .w (.d (rwD r)), .w (.d (eD a)), e5, e6, e7], h⟩ = .nx st ∧ vE 3 st = .ok (.w (.d (rwD r'))) st ∧ Ld i gi li h st.h ∧ In ds r' ∧ r'.length ≤ r.length + laps.length
  | [], r, a, m, e5, e6, e7, h, S, hr, hl, ha, hm, f7 => ⟨r, _, forL_nil rfl, rfl, Ld.refl S, hr, Nat.le_refl _⟩
  | lap :: laps, r, a, m, e5, e6, e7, h, S, hr, hl, ha, hm, f7 => by
    simp only [List.length_cons] at hl hm
    rw [Nat.succ_mul] at hm
    obtain ⟨d, e6', e7', h', hdx, ld, f7', B⟩ := b56_turn k (most := most) (lap := lap) (r := r) (a := a) (e6 := e6) S sm hd1 hd (by omega) ⟨by omega, by omega⟩ f7
    have hr' : In ds (r ++ [d]) := fun x hx => by
      rcases List.mem_append.mp hx with hx | hx
      · exact hr x hx
      · cases List.mem_singleton.mp hx; exact hdx
    rcases B with B | ⟨b, hb, B⟩
    · exact ⟨r ++ [d], _, forL_bk rfl rfl B, rfl, ld, hr', by simp only [List.length_append, List.length_cons, List.length_nil]; omega⟩
    · obtain ⟨nm, e, _, e2, hm'⟩ := ds_get hdx
      have hb' := jn_len (m := m) (n := 100) hb ha (by rw [e2]; exact sm _ hm')
      obtain ⟨r', st, L, v, ld2, i2, l2⟩ := b56_loop k sm hd1 hd laps (r ++ [d]) b (m + 100) (.w (iW lap)) e6' e7' h' ld.sc hr' (by simp only [List.length_append, List.length_cons, List.length_nil]; omega) hb' (by omega) f7'
      refine ⟨r', st, forL_cons rfl rfl B L, v, ld.trans ld2, i2, ?_⟩
      simp only [List.length_append, List.length_cons, List.length_nil] at l2 ⊢
      omega
theorem drawn_sp (k : Nat) {i gi li most : Nat} {ds : List Dd} {h : List O} (S : Sc i gi li h) (sm : Sm ds) (hd1 : 1 ≤ ds.length) (hd : ds.length ≤ 8) (hm : most ≤ 30) :
    ∃ (r : List Nat) (h' : List O), callF fns (k + 2) 56 [.ref i, .d (dsD ds), iW most] h = .ok (.w (.d (rwD r))) h' ∧ Ld i gi li h h' ∧ In ds r ∧ r.length ≤ most := by
  obtain ⟨x, ha, C, ld, r1, r2⟩ := ld_call k (p := 5) (v := 5) (m := (most : Int) + 1) rfl S (by omega) (by omega) (by omega)
  obtain ⟨r, st, L, v, ld2, i2, l2⟩ := b56_loop k (i := i) (gi := gi) (li := li) (most := most) sm hd1 hd (List.range x.toNat) [] e0 0 .un .un .un ha ld.sc (fun _ h => by cases h) (by rw [List.length_range]; simp only [List.length_nil]; omega) ⟨Nat.le_refl _, Nat.le_refl _⟩ (by rw [List.length_range]; omega) rfl
  rw [List.length_range] at l2
  simp only [List.length_nil] at l2
  refine ⟨r, st.h, ?_, ld.trans ld2, i2, by omega⟩
  apply call_ex (B := B56) (ρ := [.w (.ref i), .w (.d (dsD ds)), .w (iW most), .un, .un, .un, .un, .un]) rfl rfl rfl
  refine ⟨.w (.d (rwD r)), st, ?_, rfl⟩
  have I : itR1 (callH (callF fns (k + 1)) 47 (asC (vE 0) (asC (kE (.int 5)) (asC (op2 addV (vE 2) (kE (.int 1))) (asN))))) ⟨[.w (.ref i), .w (.d (dsD ds)), .w (iW most), .w (.d (rwD [])), .w (.d (eD e0)), .un, .un, .un], h⟩ = .ok ⟨(List.range x.toNat).map iW, none⟩ ⟨[.w (.ref i), .w (.d (dsD ds)), .w (iW most), .w (.d (rwD [])), .w (.d (eD e0)), .un, .un, .un], ha⟩ := by
    clear L
    generalize callF fns (k + 1) = call at *
    exact itR1_z (by array_get_dec) r1 (by omega)
  unfold B56
  refine seq_nx (s1 := ⟨[.w (.ref i), .w (.d (dsD ds)), .w (iW most), .w (.d (rwD [])), .un, .un, .un, .un], h⟩) rfl (seq_nx (s1 := ⟨[.w (.ref i), .w (.d (dsD ds)), .w (iW most), .w (.d (rwD [])), .w (.d (eD e0)), .un, .un, .un], h⟩) rfl (seq_nx (for_ev I L) (ret_ev v)))
end HeadT

set_option linter.all false
set_option maxRecDepth 100000
set_option maxHeartbeats 2000000
namespace HeadT
open Mn
-- MAC
local macro_rules
  | `(tactic| sizeOf_list_dec) => `(tactic| first | exact rfl | with_reducible assumption | exact decide_eq_true (by omega) | exact decide_eq_false (by omega) | (rw [Bool.not_eq_true']; exact decide_eq_false (by omega)) | (rw [Bool.not_eq_false']; exact decide_eq_true (by omega)) | (simp (config := { decide := true }) only [*, decide_true, decide_false, Bool.not_true, Bool.not_false]; done))
local macro_rules
  | `(tactic| array_mem_dec) => `(tactic| first
    | with_reducible exact len_map
    | with_reducible exact slV_take
    | with_reducible exact slV_drop
    | ((with_reducible apply slV_takez); omega)
    | ((with_reducible apply slV_dropz); omega)
    | ((with_reducible apply add_map); (try simp only [List.length_take, List.length_drop, List.length_append, List.length_cons, List.length_nil]); omega)
    | with_reducible exact eqV_pile
    | with_reducible exact neV_pile
    | with_reducible exact eqV_eff
    | ((with_reducible apply mul_v); omega)
    | ((with_reducible apply mul_one); omega)
    | ((with_reducible apply mul_tup); omega)
    | with_reducible exact tup_map
    | with_reducible exact eqV_int
    | with_reducible exact neV_int
    | ((with_reducible apply ins_slot); exact rfl; ((show (_ : Nat) < 16777216); (try simp only [List.length_map, List.length_append, List.length_cons, List.length_nil]); omega); omega; omega)
    | ((with_reducible apply str_v); assumption)
    | ((with_reducible apply isi_ref); assumption)
    | ((with_reducible apply add_tup); (try simp only [List.length_map, List.length_append, List.length_replicate, List.length_cons, List.length_nil]); omega)
    | ((with_reducible apply mod_v); omega)
    | ((with_reducible apply div_v) <;> omega)
    | ((with_reducible apply app_slot); exact rfl; (show (_ : Nat) < 16777216); (try simp only [List.length_map, List.length_append, List.length_cons, List.length_nil]); omega)
    | ((with_reducible apply pop_slot); exact rfl; omega; omega; first | assumption | exact rfl)
    | ((with_reducible apply putz_own); exact rfl; omega; (try simp only [List.length_set, List.length_map, List.length_append, List.length_replicate, List.length_cons, List.length_nil]); omega)
    | ((with_reducible apply putz_ref); assumption; omega; (try simp only [List.length_set, List.length_map, List.length_append, List.length_replicate, List.length_cons, List.length_nil]); omega)
    | ((with_reducible apply ixz_own); exact rfl; omega; first | assumption | exact rfl)
    | ((with_reducible apply ixz_tup); omega; first | assumption | exact rfl)
    | ((with_reducible apply ixz_ref); assumption; omega; first | assumption | exact rfl)
    | exact rfl
    | assumption)
local macro_rules
  | `(tactic| array_get_dec) => `(tactic| first
    | with_reducible exact kE_ev
    | ((with_reducible apply vE_w); exact rfl)
    | ((with_reducible apply vE_o); exact rfl)
    | ((with_reducible apply op2_ev); array_get_dec; array_get_dec; array_mem_dec)
    | ((with_reducible apply op1_ev); array_get_dec; array_mem_dec)
    | with_reducible exact asN_ev
    | ((with_reducible apply asC_ev); array_get_dec; array_get_dec)
    | ((with_reducible apply tupD_ev); array_get_dec; exact rfl; exact rfl; (show (_ : Nat) ≤ 16777216); simp)
    | ((with_reducible apply tup_ev); array_get_dec; exact rfl; (show (_ : Nat) ≤ 16777216); simp)
    | ((with_reducible apply lst_ev); array_get_dec; exact rfl; (show (_ : Nat) ≤ 16777216); simp)
    | ((with_reducible apply callH_ev); array_get_dec; exact rfl; first | (apply callV_p; exact rfl; assumption; exact rfl) | (apply callV_q; exact rfl; assumption))
    | ((with_reducible apply callE_q); array_get_dec; exact rfl; assumption)
    | ((with_reducible apply meth_ev); array_get_dec; (first | exact rfl | exact isl_ref (by assumption)); array_get_dec; array_mem_dec)
    | ((with_reducible apply tst_eq); array_get_dec; array_mem_dec; first | exact rfl | sizeOf_list_dec)
    | ((with_reducible apply notT_eq); array_get_dec; first | exact rfl | sizeOf_list_dec)
    | ((with_reducible apply and_c); array_get_dec; first | (left; refine ⟨?_, ?_⟩; sizeOf_list_dec; array_get_dec) | (right; refine ⟨?_, ?_⟩; sizeOf_list_dec; exact rfl))
    | ((with_reducible apply or_c); array_get_dec; first | (left; refine ⟨?_, ?_⟩; sizeOf_list_dec; exact rfl) | (right; refine ⟨?_, ?_⟩; sizeOf_list_dec; array_get_dec))
    | ((with_reducible apply andE_c); array_get_dec; array_mem_dec; first | (left; refine ⟨?_, ?_⟩; sizeOf_list_dec; array_get_dec) | (right; refine ⟨?_, ?_⟩; sizeOf_list_dec; exact rfl))
    | ((with_reducible apply orE_c); array_get_dec; array_mem_dec; first | (left; refine ⟨?_, ?_⟩; sizeOf_list_dec; exact rfl) | (right; refine ⟨?_, ?_⟩; sizeOf_list_dec; array_get_dec))
    | ((with_reducible apply chE_t); array_get_dec; array_get_dec; array_mem_dec; array_get_dec; array_mem_dec)
    | ((with_reducible apply chE_f); array_get_dec; array_get_dec; array_mem_dec)
    | ((with_reducible apply ite_c); array_get_dec; first | (left; refine ⟨?_, ?_⟩; sizeOf_list_dec; array_get_dec) | (right; refine ⟨?_, ?_⟩; sizeOf_list_dec; array_get_dec))
    | ((with_reducible apply lc_ev); array_get_dec; assumption)
    | ((with_reducible apply sl_ev); array_get_dec; array_get_dec; array_get_dec; array_mem_dec)
    | with_reducible exact no_ev
    | ((with_reducible apply some_ev); array_get_dec)
    | ((with_reducible apply itR1_z); array_get_dec; omega; omega)
    | ((with_reducible apply itE_ev); array_get_dec; exact rfl)
    | with_reducible exact nx_ev
    | ((with_reducible apply seq_nx); array_get_dec; array_get_dec)
    | ((with_reducible apply seq_rt); array_get_dec)
    | ((with_reducible apply if_c); array_get_dec; first | (left; refine ⟨?_, ?_⟩; sizeOf_list_dec; array_get_dec) | (right; refine ⟨?_, ?_⟩; sizeOf_list_dec; array_get_dec))
    | ((with_reducible apply ret_ev); array_get_dec)
    | ((with_reducible apply set_ev); array_get_dec; exact rfl)
    | ((with_reducible apply expr_ev); array_get_dec)
    | ((with_reducible apply unp_ev); array_get_dec; exact rfl)
    | ((with_reducible apply par_ev); array_get_dec; exact rfl; exact rfl; exact rfl)
    | ((with_reducible apply for_ev); array_get_dec; assumption)
    | ((with_reducible apply put_ev); array_get_dec; array_get_dec; array_get_dec; exact rfl; array_mem_dec))
-- ENDMAC
abbrev eWd (e : Eff) : W := .d (eD e)
theorem ints_ev {is : List Int} : (is.map D.int).map W.d = is.map fun p => W.d (.int p) := by rw [List.map_map]; rfl
abbrev S57 (i : Nat) (ds : List Dd) (row : List Nat) (m : Int) (e4 e5 e6 e7 e8 : E0) (h : List O) : Mn.S := ⟨[.w (.ref i), .w (.d (dsD ds)), .w (.d (rwD row)), .w (zW m), e4, e5, e6, e7, e8], h⟩
/-- the list of eight -/
def eight (b : Eff) (mo : List Int) (m : Int) : List Eff := [b, (b.1 ++ mo, b.2 ++ mo), (b.1 ++ [0], b.2), (b.1, b.2 ++ [m - 1]), (b.2, b.1), (b.1.drop 1, b.2), (b.1 ++ mo, mo ++ b.2), ([0] ++ b.1, [0] ++ b.2)]
theorem more57 (k : Nat) {i gi li : Nat} {ds : List Dd} {row : List Nat} {m : Int} {e4 e5 e6 e7 : E0} {h : List O} (S : Sc i gi li h) (h1 : 1 ≤ m) (h2 : m ≤ 1000) :
    ∃ (mo : List Int) (h' : List O), op1 tupleV (lcE (itR1 (PK (callF fns (k + 1)) 1 (kE (.int 3)))) (tgV 8) yesT (PK (callF fns (k + 1)) 0 (vE 3)) [8]) (S57 i ds row m e4 e5 e6 e7 .un h) = .ok (.w (.d (pD mo))) (S57 i ds row m e4 e5 e6 e7 .un h') ∧ Ld i gi li h h' ∧ mo.length ≤ 2 := by
  obtain ⟨r, ha, C, ld, r1, r2⟩ := cl_pick k (s := S57 i ds row m e4 e5 e6 e7 .un h) (e0 := vE 0) (e := kE (.int 3)) (m := 3) (p := 1) (v := 1) rfl rfl rfl S (by decide) (by decide) (by decide)
  have I := itR1_z (a := PK (callF fns (k + 1)) 1 (kE (.int 3))) C r1 (by omega)
  obtain ⟨is, e1, h', f1, l1, q1, ld2, E⟩ := picks k (ρ := (S57 i ds row m e4 e5 e6 e7 .un h).ρ) (j := 8) (i := i) (gi := gi) (li := li) (p := 0) (v := 0) (m := m) (e := vE 3) rfl (by show 8 < 9; omega) (fun _ _ => rfl) (fun _ _ => rfl) (by decide) h1 h2 ((List.range r.toNat).map iW) [] .un ha rfl ld.sc (by simp only [List.length_map, List.length_range, List.length_nil]; show _ ≤ 16777216; omega)
  refine ⟨is, h', ?_, ld.trans ld2, by rw [l1]; simp; omega⟩
  exact op1_ev ((lc_ev I E).trans rfl) tup_map
theorem base57 (k : Nat) {i gi li : Nat} {ds : List Dd} {row : List Nat} {m : Int} {o : Option Eff} {e5 e6 e7 e8 : E0} {h : List O} {N : Nat} (S : Sc i gi li h) (h1 : 1 ≤ m) (h2 : m ≤ 1000) (hb : Bd N o) (hN : 1 ≤ N) :
    ∃ (b : Eff) (h' : List O), iteE (tst (op2 isntV (vE 4) (kE .non))) (vE 4) (tupE (asC (tupE (asC (callH (callF fns (k + 1)) 47 (asC (vE 0) (asC (kE (.int 0)) (asC (vE 3) (asN))))) (asN))) (asC (tupE (asC (callH (callF fns (k + 1)) 47 (asC (vE 0) (asC (kE (.int 2)) (asC (vE 3) (asN))))) (asN))) (asN)))) (S57 i ds row m (.w (.d (oE o))) e5 e6 e7 e8 h) = .ok (.w (.d (eD b))) (S57 i ds row m (.w (.d (oE o))) e5 e6 e7 e8 h') ∧ Ld i gi li h h' ∧ b.1.length ≤ N ∧ b.2.length ≤ N := by
  cases o with
  | some b => exact ⟨b, h, ite_t (s1 := S57 i ds row m (.w (.d (eD b))) e5 e6 e7 e8 h) rfl rfl, Ld.refl S, hb b rfl⟩
  | none =>
    obtain ⟨x, ha, C, ld, r1, r2⟩ := cl_pick k (s := S57 i ds row m (.w (.d .non)) e5 e6 e7 e8 h) (e0 := vE 0) (e := vE 3) (m := m) (p := 0) (v := 0) rfl rfl rfl S (by decide) h1 h2
    obtain ⟨y, hb, C2, ld2, r3, r4⟩ := cl_pick k (s := S57 i ds row m (.w (.d .non)) e5 e6 e7 e8 ha) (e0 := vE 0) (e := vE 3) (m := m) (p := 2) (v := 2) rfl rfl rfl ld.sc (by decide) h1 h2
    refine ⟨([x], [y]), hb, ite_f (s1 := S57 i ds row m (.w (.d .non)) e5 e6 e7 e8 h) rfl ?_, ld.trans ld2, hN, hN⟩
    refine tupD_ev (ws := [.d (.tup [.int x]), .d (.tup [.int y])]) (asC_ev (tupD_ev (ws := [zW x]) (asC_ev C asN_ev) rfl rfl (by show 1 ≤ 16777216; omega)) (asC_ev (tupD_ev (ws := [zW y]) (asC_ev C2 asN_ev) rfl rfl (by show 1 ≤ 16777216; omega)) asN_ev)) rfl rfl (by show 2 ≤ 16777216; omega)
abbrev R57 : Ex := (lstE (asC (vE 6) (asC (tupE (asC (op2 addV (op2 ixV (vE 6) (kE (.int 0))) (vE 5)) (asC (op2 addV (op2 ixV (vE 6) (kE (.int 1))) (vE 5)) (asN)))) (asC (tupE (asC (op2 addV (op2 ixV (vE 6) (kE (.int 0))) (tupE (asC (kE (.int 0)) (asN)))) (asC (op2 ixV (vE 6) (kE (.int 1))) (asN)))) (asC (tupE (asC (op2 ixV (vE 6) (kE (.int 0))) (asC (op2 addV (op2 ixV (vE 6) (kE (.int 1))) (tupE (asC (op2 subV (vE 3) (kE (.int 1))) (asN)))) (asN)))) (asC (tupE (asC (op2 ixV (vE 6) (kE (.int 1))) (asC (op2 ixV (vE 6) (kE (.int 0))) (asN)))) (asC (tupE (asC (slE (op2 ixV (vE 6) (kE (.int 0))) (someO (kE (.int 1))) (noO)) (asC (op2 ixV (vE 6) (kE (.int 1))) (asN)))) (asC (tupE (asC (op2 addV (op2 ixV (vE 6) (kE (.int 0))) (vE 5)) (asC (op2 addV (vE 5) (op2 ixV (vE 6) (kE (.int 1)))) (asN)))) (asC (tupE (asC (op2 addV (tupE (asC (kE (.int 0)) (asN))) (op2 ixV (vE 6) (kE (.int 0)))) (asC (op2 addV (tupE (asC (kE (.int 0)) (asN))) (op2 ixV (vE 6) (kE (.int 1)))) (asN)))) (asN))))))))))
theorem rows57 {i : Nat} {ds : List Dd} {row : List Nat} {m : Int} {e4 e7 e8 : E0} {b : Eff} {mo : List Int} {h : List O} (hb : b.1.length ≤ 10000 ∧ b.2.length ≤ 10000) (hm : mo.length ≤ 2) :
    R57 (S57 i ds row m e4 (.w (.d (pD mo))) (.w (.d (eD b))) e7 e8 h) = .ok (.new (.lst ((eight b mo m).map eWd))) (S57 i ds row m e4 (.w (.d (pD mo))) (.w (.d (eD b))) e7 e8 h) := by
  obtain ⟨b1, b2⟩ := b
  simp only at hb
  have l1 : (b1.map D.int).length = b1.length := List.length_map _
  have l2 : (b2.map D.int).length = b2.length := List.length_map _
  have l3 : (mo.map D.int).length = mo.length := List.length_map _
  apply ok_as
  · array_get_dec
  · rfl
  · show _ = R.new (.lst ((eight (b1, b2) mo m).map eWd))
    simp [eight]
theorem eight_len {b : Eff} {mo : List Int} {m : Int} {N : Nat} (hb : b.1.length ≤ N ∧ b.2.length ≤ N) (hm : mo.length ≤ 2) : ∀ e ∈ eight b mo m, e.1.length ≤ N + 2 ∧ e.2.length ≤ N + 2 := fun e he => by
  simp only [eight, List.mem_cons, List.not_mem_nil, or_false] at he
  rcases he with rfl | rfl | rfl | rfl | rfl | rfl | rfl | rfl <;> refine ⟨?_, ?_⟩ <;> (try simp only [List.length_append, List.length_drop, List.length_cons, List.length_nil]) <;> omega
theorem effects_sp (k : Nat) {i gi li : Nat} {ds : List Dd} {row : List Nat} {m : Int} {h : List O} (S : Sc i gi li h) (sm : Sm ds) (hr : In ds row) (hl : row.length ≤ 40) (h1 : 1 ≤ m) (h2 : m ≤ 1000) :
    ∃ (es : List Eff) (h' : List O), callF fns (k + 3) 57 [.ref i, .d (dsD ds), .d (rwD row), zW m] h = .ok (.new (.lst (es.map eWd))) h' ∧ Ld i gi li h h' ∧ es.length = 3 ∧ ∀ e ∈ es, e.1.length ≤ 5000 ∧ e.2.length ≤ 5000 := by
  obtain ⟨hz, CR⟩ := lrow_sp k ds row sm hr (by omega)
  have bd := bd_row sm row (some e0) 0 hr bd0
  have bd : Bd 4900 (rowE ds (some e0) row) := fun a ha => by have := bd a ha; omega
  generalize rowE ds (some e0) row = o at *
  obtain ⟨mo, ha, M, l1, lm⟩ := more57 (k + 1) (ds := ds) (row := row) (m := m) (e4 := .w (.d (oE o))) (e5 := .un) (e6 := .un) (e7 := .un) S h1 h2
  obtain ⟨b, hb, B, l2, b12⟩ := base57 (k + 1) (ds := ds) (row := row) (m := m) (o := o) (e5 := .w (.d (pD mo))) (e6 := .un) (e7 := .un) (e8 := .un) (N := 4900) l1.sc h1 h2 bd (by decide)
  have R := rows57 (i := i) (ds := ds) (row := row) (m := m) (e4 := .w (.d (oE o))) (e7 := .un) (e8 := .un) (b := b) (mo := mo) (h := hb) (by omega) lm
  obtain ⟨x, hc, C, l3, r1, r2⟩ := ld_call (k + 1) (p := 3) (v := 3) (m := 6) rfl l2.sc (by omega) (by omega) (by omega)
  have el := eight_len (m := m) b12 lm
  have e8 : (eight b mo m).length = 8 := rfl
  have hx : (2 + x).toNat < (eight b mo m).length := by omega
  have gx : ((eight b mo m).map eWd)[(2 + x).toNat]? = some (eWd (eight b mo m)[(2 + x).toNat]) := by rw [List.getElem?_map, List.getElem?_eq_getElem hx]; rfl
  have mx := List.getElem_mem hx
  generalize (eight b mo m)[(2 + x).toNat] = e3 at gx mx
  have g0 : ((eight b mo m).map eWd)[(0 : Int).toNat]? = some (eWd b) := rfl
  have g1 : ((eight b mo m).map eWd)[(1 : Int).toNat]? = some (eWd (b.1 ++ mo, b.2 ++ mo)) := rfl
  refine ⟨[b, (b.1 ++ mo, b.2 ++ mo), e3], hc, ?_, (l1.trans l2).trans l3, rfl, fun e he => ?_⟩
  · apply call_ex (B := B57) (ρ := [.w (.ref i), .w (.d (dsD ds)), .w (.d (rwD row)), .w (zW m), .un, .un, .un, .un, .un]) rfl rfl rfl
    have L7 : setS 7 R57 (S57 i ds row m (.w (.d (oE o))) (.w (.d (pD mo))) (.w (.d (eD b))) .un .un hb) = .nx (S57 i ds row m (.w (.d (oE o))) (.w (.d (pD mo))) (.w (.d (eD b))) (.own (.lst ((eight b mo m).map eWd))) .un hb) := set_ev R rfl
    have L5 : setS 5 (op1 tupleV (lcE (itR1 (PK (callF fns (k + 1 + 1)) 1 (kE (.int 3)))) (tgV 8) yesT (PK (callF fns (k + 1 + 1)) 0 (vE 3)) [8])) (S57 i ds row m (.w (.d (oE o))) .un .un .un .un h) = .nx (S57 i ds row m (.w (.d (oE o))) (.w (.d (pD mo))) .un .un .un ha) := set_ev M rfl
    have L6 := set_ev (i := 6) B (s2 := S57 i ds row m (.w (.d (oE o))) (.w (.d (pD mo))) (.w (.d (eD b))) .un .un hb) rfl
    clear M B R
    generalize eight b mo m = L at *
    refine ⟨.new (.lst [eWd b, eWd (b.1 ++ mo, b.2 ++ mo), eWd e3]), S57 i ds row m (.w (.d (oE o))) (.w (.d (pD mo))) (.w (.d (eD b))) (.own (.lst (L.map eWd))) .un hc, ?_, rfl⟩
    unfold B57
    have L4 : setS 4 (callH (callF fns (k + 2)) 51 (asC (vE 1) (asC (vE 2) (asN)))) (S57 i ds row m .un .un .un .un .un h) = .nx (S57 i ds row m (.w (.d (oE o))) .un .un .un .un h) := by
      clear L5 L6 C
      generalize callF fns (k + 2) = call at *
      array_get_dec
    refine seq_nx L4 (seq_nx L5 (seq_nx L6 (seq_nx L7 ?_)))
    clear L4 L5 L6 L7 CR
    have C : callF fns (k + 2) 47 [.ref i, .d (.int 3), .d (.int 6)] hb = .ok (iR x) hc := C
    generalize callF fns (k + 2) = call at *
    apply rt_as
    · array_get_dec
    · rfl
    · rfl
  · simp only [List.mem_cons, List.not_mem_nil, or_false] at he
    rcases he with rfl | rfl | rfl
    · omega
    · have := el (b.1 ++ mo, b.2 ++ mo) (by simp [eight])
      omega
    · have := el _ mx
      omega
end HeadT

set_option linter.all false
set_option maxRecDepth 100000
set_option maxHeartbeats 2000000
namespace HeadT
open Mn
-- MAC
local macro_rules
  | `(tactic| sizeOf_list_dec) => `(tactic| first | exact rfl | with_reducible assumption | exact decide_eq_true (by omega) | exact decide_eq_false (by omega) | (rw [Bool.not_eq_true']; exact decide_eq_false (by omega)) | (rw [Bool.not_eq_false']; exact decide_eq_true (by omega)) | (simp (config := { decide := true }) only [*, decide_true, decide_false, Bool.not_true, Bool.not_false]; done))
local macro_rules
  | `(tactic| array_mem_dec) => `(tactic| first
    | with_reducible exact len_map
    | with_reducible exact slV_take
    | with_reducible exact slV_drop
    | ((with_reducible apply slV_takez); omega)
    | ((with_reducible apply slV_dropz); omega)
    | ((with_reducible apply add_map); (try simp only [List.length_take, List.length_drop, List.length_append, List.length_cons, List.length_nil]); omega)
    | with_reducible exact eqV_pile
    | with_reducible exact neV_pile
    | with_reducible exact eqV_eff
    | ((with_reducible apply mul_v); omega)
    | ((with_reducible apply mul_one); omega)
    | ((with_reducible apply mul_tup); omega)
    | with_reducible exact tup_map
    | with_reducible exact eqV_int
    | with_reducible exact neV_int
    | ((with_reducible apply ins_slot); exact rfl; ((show (_ : Nat) < 16777216); (try simp only [List.length_map, List.length_append, List.length_cons, List.length_nil]); omega); omega; omega)
    | ((with_reducible apply str_v); assumption)
    | ((with_reducible apply isi_ref); assumption)
    | ((with_reducible apply add_tup); (try simp only [List.length_map, List.length_append, List.length_replicate, List.length_cons, List.length_nil]); omega)
    | ((with_reducible apply mod_v); omega)
    | ((with_reducible apply div_v) <;> omega)
    | ((with_reducible apply app_slot); exact rfl; (show (_ : Nat) < 16777216); (try simp only [List.length_map, List.length_append, List.length_cons, List.length_nil]); omega)
    | ((with_reducible apply pop_slot); exact rfl; omega; omega; first | assumption | exact rfl)
    | ((with_reducible apply putz_own); exact rfl; omega; (try simp only [List.length_set, List.length_map, List.length_append, List.length_replicate, List.length_cons, List.length_nil]); omega)
    | ((with_reducible apply putz_ref); assumption; omega; (try simp only [List.length_set, List.length_map, List.length_append, List.length_replicate, List.length_cons, List.length_nil]); omega)
    | ((with_reducible apply ixz_own); exact rfl; omega; first | assumption | exact rfl)
    | ((with_reducible apply ixz_tup); omega; first | assumption | exact rfl)
    | ((with_reducible apply ixz_ref); assumption; omega; first | assumption | exact rfl)
    | exact rfl
    | assumption)
local macro_rules
  | `(tactic| array_get_dec) => `(tactic| first
    | with_reducible exact kE_ev
    | ((with_reducible apply vE_w); exact rfl)
    | ((with_reducible apply vE_o); exact rfl)
    | ((with_reducible apply op2_ev); array_get_dec; array_get_dec; array_mem_dec)
    | ((with_reducible apply op1_ev); array_get_dec; array_mem_dec)
    | with_reducible exact asN_ev
    | ((with_reducible apply asC_ev); array_get_dec; array_get_dec)
    | ((with_reducible apply tupD_ev); array_get_dec; exact rfl; exact rfl; (show (_ : Nat) ≤ 16777216); simp)
    | ((with_reducible apply tup_ev); array_get_dec; exact rfl; (show (_ : Nat) ≤ 16777216); simp)
    | ((with_reducible apply lst_ev); array_get_dec; exact rfl; (show (_ : Nat) ≤ 16777216); simp)
    | ((with_reducible apply callH_ev); array_get_dec; exact rfl; first | (apply callV_p; exact rfl; assumption; exact rfl) | (apply callV_q; exact rfl; assumption))
    | ((with_reducible apply callE_q); array_get_dec; exact rfl; assumption)
    | ((with_reducible apply meth_ev); array_get_dec; (first | exact rfl | exact isl_ref (by assumption)); array_get_dec; array_mem_dec)
    | ((with_reducible apply tst_eq); array_get_dec; array_mem_dec; first | exact rfl | sizeOf_list_dec)
    | ((with_reducible apply notT_eq); array_get_dec; first | exact rfl | sizeOf_list_dec)
    | ((with_reducible apply and_c); array_get_dec; first | (left; refine ⟨?_, ?_⟩; sizeOf_list_dec; array_get_dec) | (right; refine ⟨?_, ?_⟩; sizeOf_list_dec; exact rfl))
    | ((with_reducible apply or_c); array_get_dec; first | (left; refine ⟨?_, ?_⟩; sizeOf_list_dec; exact rfl) | (right; refine ⟨?_, ?_⟩; sizeOf_list_dec; array_get_dec))
    | ((with_reducible apply andE_c); array_get_dec; array_mem_dec; first | (left; refine ⟨?_, ?_⟩; sizeOf_list_dec; array_get_dec) | (right; refine ⟨?_, ?_⟩; sizeOf_list_dec; exact rfl))
    | ((with_reducible apply orE_c); array_get_dec; array_mem_dec; first | (left; refine ⟨?_, ?_⟩; sizeOf_list_dec; exact rfl) | (right; refine ⟨?_, ?_⟩; sizeOf_list_dec; array_get_dec))
    | ((with_reducible apply chE_t); array_get_dec; array_get_dec; array_mem_dec; array_get_dec; array_mem_dec)
    | ((with_reducible apply chE_f); array_get_dec; array_get_dec; array_mem_dec)
    | ((with_reducible apply ite_c); array_get_dec; first | (left; refine ⟨?_, ?_⟩; sizeOf_list_dec; array_get_dec) | (right; refine ⟨?_, ?_⟩; sizeOf_list_dec; array_get_dec))
    | ((with_reducible apply lc_ev); array_get_dec; assumption)
    | ((with_reducible apply sl_ev); array_get_dec; array_get_dec; array_get_dec; array_mem_dec)
    | with_reducible exact no_ev
    | ((with_reducible apply some_ev); array_get_dec)
    | ((with_reducible apply itR1_z); array_get_dec; omega; omega)
    | ((with_reducible apply itE_ev); array_get_dec; exact rfl)
    | with_reducible exact nx_ev
    | ((with_reducible apply seq_nx); array_get_dec; array_get_dec)
    | ((with_reducible apply seq_rt); array_get_dec)
    | ((with_reducible apply if_c); array_get_dec; first | (left; refine ⟨?_, ?_⟩; sizeOf_list_dec; array_get_dec) | (right; refine ⟨?_, ?_⟩; sizeOf_list_dec; array_get_dec))
    | ((with_reducible apply ret_ev); array_get_dec)
    | ((with_reducible apply set_ev); array_get_dec; exact rfl)
    | ((with_reducible apply expr_ev); array_get_dec)
    | ((with_reducible apply unp_ev); array_get_dec; exact rfl)
    | ((with_reducible apply par_ev); array_get_dec; exact rfl; exact rfl; exact rfl)
    | ((with_reducible apply for_ev); array_get_dec; assumption)
    | ((with_reducible apply put_ev); array_get_dec; array_get_dec; array_get_dec; exact rfl; array_mem_dec))
-- ENDMAC
abbrev S58 (i : Nat) (pr : D) (m : Int) (most long : Nat) (ds : List Dd) (row : List Nat) (o : Option Eff) (e8 e9 e10 e11 e12 e13 e14 e15 e16 e17 e18 : E0) (h : List O) : Mn.S :=
  ⟨[.w (.ref i), .w (.d pr), .w (zW m), .w (iW most), .w (iW long), .w (.d (dsD ds)), .w (.d (rwD row)), .w (.d (oE o)), e8, e9, e10, e11, e12, e13, e14, e15, e16, e17, e18], h⟩
theorem loopJ {kp : Option (Nat × O)} {j : Nat} {B : Mn.St} {ρ : List E0} {h : List O} (hj : j < ρ.length) (hk : ∀ e, kept ⟨ρ.set j e, h⟩ kp = true) : ∀ (ws : List W) (e0 : E0), (∀ w ∈ ws, B ⟨ρ.set j (.w w), h⟩ = .nx ⟨ρ.set j (.w w), h⟩) →
    ∃ e1, forL kp (tgV j) B ws ⟨ρ.set j e0, h⟩ = .nx ⟨ρ.set j e1, h⟩
  | [], e0, _ => ⟨e0, forL_nil (hk _)⟩
  | w :: ws, e0, hw => by
    obtain ⟨e1, L⟩ := loopJ hj hk ws (.w w) fun x hx => hw x (List.mem_cons_of_mem _ hx)
    refine ⟨e1, forL_cons (hk _) ?_ (hw w List.mem_cons_self) L⟩
    show (if j < (ρ.set j e0).length then some (⟨(ρ.set j e0).set j (.w w), h⟩ : Mn.S) else none) = _
    rw [if_pos (by simpa using hj), List.set_set]
section
variable {i gi li most long : Nat} {kk nn bb : D} {m : Int} {ds : List Dd} {row : List Nat} {o : Option Eff} {e8 e9 e10 e11 e12 e13 e14 e15 e16 e17 e18 : E0} {h : List O}
def fitB (e : Eff) : Option Eff → Bool
  | some a => isX e a
  | none => false
theorem b58_1 (k : Nat) {e : Eff} (sm : Sm ds) (hd : ds.length ≤ 8) (hm : most ≤ 900) (cap : (ds.length + 1) ^ most ≤ 1000000) (he : e.1.length ≤ 5000 ∧ e.2.length ≤ 5000) :
    B58_1 (callF fns (k + 5)) (S58 i (prD kk nn bb ds) m most long ds row o e8 (.w (eWd e)) e10 e11 e12 e13 e14 e15 e16 e17 e18 h) = .nx (S58 i (prD kk nn bb ds) m most long ds row o e8 (.w (eWd e)) e10 e11 e12 e13 e14 e15 e16 e17 e18 h) := by
  obtain ⟨h1, C1⟩ := shortest_sp (k + 1) kk nn bb ds e most sm (by omega) (by omega) hm cap
  obtain ⟨h2, C2⟩ := lshortest_sp (k + 3) ds e most sm (by omega) (by omega) hm cap
  obtain ⟨h3, C3⟩ := same_sp (k + 4) (oR (sr ds e most r0)) (pl_oR _) (by
    have := sz_oR (o := sr ds e most r0) (n := most) (fun r hr => by have := sr_len sm fit0 hr; omega)
    omega)
  generalize oR (sr ds e most r0) = v at *
  have C1 : callF fns (k + 5) 9 [.d (prD kk nn bb ds), .d (eD e), .d (.int most)] [] = .ok (.w (.d v)) h1 := C1
  have C2 : callF fns (k + 5) 53 [.d (dsD ds), .d (eD e), .d (.int most)] [] = .ok (.w (.d v)) h2 := C2
  have C3 : callF fns (k + 5) 54 [.d v, .d v] [] = .ok (bR true) h3 := C3
  generalize callF fns (k + 5) = call at *
  apply nx_as
  · unfold B58_1
    array_get_dec
  · rfl
theorem b58_2 (k : Nat) {r : List Nat} {e : Eff} (sm : Sm ds) (hr : In ds r) (hl : r.length ≤ 900) (he : e.1.length ≤ 5000 ∧ e.2.length ≤ 5000) :
    B58_2 (callF fns (k + 5)) (S58 i (prD kk nn bb ds) m most long ds row o e8 (.w (eWd e)) e10 e11 e12 e13 (.w (.d (rwD r))) e15 e16 e17 e18 h) = .nx (S58 i (prD kk nn bb ds) m most long ds row o e8 (.w (eWd e)) e10 e11 e12 e13 (.w (.d (rwD r))) e15 e16 e17 e18 h) := by
  obtain ⟨h1, C1⟩ := rowfor_sp (k + 1) kk nn bb ds r e sm hr hl (by omega)
  obtain ⟨h2, C2⟩ := lrow_sp (k + 3) ds r sm hr hl
  have bd := bd_row sm r (some e0) 0 hr bd0
  obtain ⟨h3, C3⟩ := isfor_sp (k + 4) (rowE ds (some e0) r) e (fun a ha => by have := bd a ha; omega) (by omega)
  have C4 := bool_sp (k + 4) (fitB e (rowE ds (some e0) r)) (fitB e (rowE ds (some e0) r))
  rw [beq_self_eq_true] at C4
  generalize rowE ds (some e0) r = y at *
  have C1 : callF fns (k + 5) 7 [.d (prD kk nn bb ds), .d (rwD r), .d (eD e)] [] = .ok (bR (fitB e y)) h1 := C1
  have C2 : callF fns (k + 5) 51 [.d (dsD ds), .d (rwD r)] [] = .ok (.w (.d (oE y))) h2 := C2
  have C3 : callF fns (k + 5) 52 [.d (oE y), .d (eD e)] [] = .ok (bR (fitB e y)) h3 := C3
  have C4 : callF fns (k + 5) 55 [.d (.bl (fitB e y)), .d (.bl (fitB e y))] [] = .ok (bR true) [] := C4
  generalize fitB e y = x at *
  generalize callF fns (k + 5) = call at *
  apply nx_as
  · unfold B58_2
    array_get_dec
  · rfl
/-- the first check -/
abbrev A58 (call : Call) : Mn.St := (ifS (orT (notT (tst (callH call 54 (asC (callH call 6 (asC (vE 1) (asC (vE 6) (asN)))) (asC (vE 7) (asN)))))) (notT (tst (callH call 54 (asC (callH call 2 (asC (op1 tupleV (lcE (itE (vE 6)) (tgV 12) (yesT) (slE (op2 ixV (vE 5) (vE 12)) (someO (kE (.int 1))) (noO)) [12])) (asN))) (asC (vE 7) (asN))))))) (retS (kE (.bl false))) (nxS))
theorem a58_ev (k : Nat) (sm : Sm ds) (hr : In ds row) (hl : row.length ≤ 40) :
    A58 (callF fns (k + 5)) (S58 i (prD kk nn bb ds) m most long ds row (rowE ds (some e0) row) e8 e9 e10 e11 .un e13 e14 e15 e16 e17 e18 h) = .nx (S58 i (prD kk nn bb ds) m most long ds row (rowE ds (some e0) row) e8 e9 e10 e11 .un e13 e14 e15 e16 e17 e18 h) := by
  obtain ⟨h1, C1⟩ := rowEff_sp (k + 2) kk nn bb ds row sm hr (by omega)
  have bd := bd_row sm row (some e0) 0 hr bd0
  have bd : Bd 4000 (rowE ds (some e0) row) := fun a ha => by have := bd a ha; omega
  obtain ⟨h3, C3⟩ := same_sp (k + 4) (oE (rowE ds (some e0) row)) (pl_oE _) (by have := sz_oE bd; omega)
  obtain ⟨h2, C2⟩ := alljoined_sp (k + 2) (row.map (ef ds)) (fun c hc => by
    obtain ⟨d, hd, rfl⟩ := List.mem_map.mp hc
    obtain ⟨nm, e, _, e2, hm⟩ := ds_get (hr d hd)
    have := sm _ hm
    rw [e2]
    exact this) (by rw [List.length_map]; omega)
  have C2 : callF fns (k + 5) 2 [.d (.tup ((row.map (ef ds)).map eD))] [] = .ok (.w (.d (oE (rowE ds (some e0) row)))) h2 := C2
  rw [List.map_map] at C2
  generalize rowE ds (some e0) row = y at *
  obtain ⟨e12', f12, E⟩ := lcA (e := slE (op2 ixV (vE 5) (vE 12)) (someO (kE (.int 1))) (noO)) (ρ := (S58 i (prD kk nn bb ds) m most long ds row y e8 e9 e10 e11 .un e13 e14 e15 e16 e17 e18 h).ρ) (i := 12) (h := h) iW (eD ∘ ef ds) (by show 12 < 19; omega) row
    (fun d hd => by
      obtain ⟨nm, e, x, e2, hm⟩ := ds_get (hr d hd)
      show _ = Res.ok (R.w (W.d (eD (ef ds d)))) _
      rw [e2]
      apply ok_as
      · array_get_dec
      · rfl
      · rfl) [] .un rfl (by simp only [List.length_nil]; show _ ≤ 16777216; omega)
  have CO : lcE (itE (vE 6)) (tgV 12) (yesT) (slE (op2 ixV (vE 5) (vE 12)) (someO (kE (.int 1))) (noO)) [12] (S58 i (prD kk nn bb ds) m most long ds row y e8 e9 e10 e11 .un e13 e14 e15 e16 e17 e18 h) = .ok (.new (.lst ((row.map (eD ∘ ef ds)).map W.d))) (S58 i (prD kk nn bb ds) m most long ds row y e8 e9 e10 e11 .un e13 e14 e15 e16 e17 e18 h) := by
    refine (lc_ev (i := ⟨row.map iW, none⟩) (itE_ev (vE_w rfl) ?_) E).trans rfl
    show Res.ok (⟨(row.map nI).map W.d, none⟩ : It) _ = _
    rw [List.map_map]; rfl
  have C1 : callF fns (k + 5) 6 [.d (prD kk nn bb ds), .d (rwD row)] [] = .ok (.w (.d (oE y))) h1 := C1
  have C3 : callF fns (k + 5) 54 [.d (oE y), .d (oE y)] [] = .ok (bR true) h3 := C3
  clear E
  generalize callF fns (k + 5) = call at *
  refine if_f (orT_f (s1 := S58 i (prD kk nn bb ds) m most long ds row y e8 e9 e10 e11 .un e13 e14 e15 e16 e17 e18 h) ?_ (notT_eq (s1 := S58 i (prD kk nn bb ds) m most long ds row y e8 e9 e10 e11 .un e13 e14 e15 e16 e17 e18 h) (k' := true) ?_ rfl)) rfl
  · array_get_dec
  · refine tst_b (callH_ev (asC_ev (callH_ev (asC_ev (op1_ev CO tup_map) asN_ev) rfl (callV_p rfl C2 rfl)) (asC_ev (vE_w rfl) asN_ev)) rfl (callV_p rfl C3 rfl))
/-- the rows that are asked -/
def eightR (row : List Nat) (a d : Nat) (other : List Nat) : List (List Nat) := [row, row.take a, row ++ [d], row.take a ++ [d] ++ row.drop a, row.take a ++ [d] ++ row.drop (a + 1), other, row.reverse, []]
abbrev rwWd (r : List Nat) : W := .d (rwD r)
abbrev R58 : Ex := (lstE (asC (vE 6) (asC (slE (vE 6) (noO) (someO (vE 11))) (asC (op2 addV (vE 6) (tupE (asC (vE 12) (asN)))) (asC (op2 addV (op2 addV (slE (vE 6) (noO) (someO (vE 11))) (tupE (asC (vE 12) (asN)))) (slE (vE 6) (someO (vE 11)) (noO))) (asC (op2 addV (op2 addV (slE (vE 6) (noO) (someO (vE 11))) (tupE (asC (vE 12) (asN)))) (slE (vE 6) (someO (op2 addV (vE 11) (kE (.int 1)))) (noO))) (asC (vE 10) (asC (op1 revT (vE 6)) (asC (tupE (asN)) (asN))))))))))
theorem r58_ev {a d : Nat} {other : List Nat} {pr : D} (hl : row.length ≤ 40) :
    R58 (S58 i pr m most long ds row o e8 e9 (.w (.d (rwD other))) (.w (iW a)) (.w (iW d)) e13 e14 e15 e16 e17 e18 h) = .ok (.new (.lst ((eightR row a d other).map rwWd))) (S58 i pr m most long ds row o e8 e9 (.w (.d (rwD other))) (.w (iW a)) (.w (iW d)) e13 e14 e15 e16 e17 e18 h) := by
  have t1 : (row.take a).length ≤ row.length := by rw [List.length_take]; omega
  have t2 : (row.drop a).length ≤ row.length := by rw [List.length_drop]; omega
  have t3 : (row.drop ((a : Int) + 1).toNat).length ≤ row.length := by rw [List.length_drop]; omega
  have t4 : ((a : Int) + 1).toNat = a + 1 := by omega
  apply ok_as
  · array_get_dec
  · rfl
  · rw [t4]
    simp [eightR]
theorem in_eight {a d : Nat} {other : List Nat} (hr : In ds row) (hd : d < ds.length) (ho : In ds other) (hl : row.length ≤ 40) (hlo : other.length ≤ 40) : ∀ r ∈ eightR row a d other, In ds r ∧ r.length ≤ 900 := fun r he => by
  have h1 : In ds (row.take a) := fun x hx => hr x (List.mem_of_mem_take hx)
  have h2 : In ds (row.drop a) := fun x hx => hr x (List.mem_of_mem_drop hx)
  have h3 : In ds (row.drop (a + 1)) := fun x hx => hr x (List.mem_of_mem_drop hx)
  have h4 : In ds [d] := fun x hx => by cases List.mem_singleton.mp hx; exact hd
  have ap : ∀ {p q : List Nat}, In ds p → In ds q → In ds (p ++ q) := fun hp hq x hx => by
    rcases List.mem_append.mp hx with hx | hx
    · exact hp x hx
    · exact hq x hx
  simp only [eightR, List.mem_cons, List.not_mem_nil, or_false] at he
  rcases he with rfl | rfl | rfl | rfl | rfl | rfl | rfl | rfl
  · exact ⟨hr, by omega⟩
  · exact ⟨h1, by rw [List.length_take]; omega⟩
  · exact ⟨ap hr h4, by simp only [List.length_append, List.length_cons, List.length_nil]; omega⟩
  · exact ⟨ap (ap h1 h4) h2, by simp only [List.length_append, List.length_cons, List.length_nil, List.length_take, List.length_drop]; omega⟩
  · exact ⟨ap (ap h1 h4) h3, by simp only [List.length_append, List.length_cons, List.length_nil, List.length_take, List.length_drop]; omega⟩
  · exact ⟨ho, by omega⟩
  · exact ⟨fun x hx => hr x (List.mem_reverse.mp hx), by rw [List.length_reverse]; omega⟩
  · exact ⟨(fun x hx => by cases hx), by simp⟩
/-- joined halves -/
abbrev J58 (call : Call) : Mn.St := (ifS (andT (tst (op2 isntV (vE 15) (kE .non))) (andT (tst (op2 isntV (vE 16) (kE .non))) (notT (tst (callH call 54 (asC (callH call 1 (asC (vE 15) (asC (vE 16) (asN)))) (asC (vE 7) (asN)))))))) (retS (kE (.bl false))) (nxS))
theorem j58_ev (k : Nat) {a : Nat} {pr : D} (sm : Sm ds) (hr : In ds row) (hl : row.length ≤ 40) :
    J58 (callF fns (k + 5)) (S58 i pr m most long ds row (rowE ds (some e0) row) e8 e9 e10 e11 e12 e13 e14 (.w (.d (oE (rowE ds (some e0) (row.take a))))) (.w (.d (oE (rowE ds (some e0) (row.drop a))))) e17 e18 h) = .nx (S58 i pr m most long ds row (rowE ds (some e0) row) e8 e9 e10 e11 e12 e13 e14 (.w (.d (oE (rowE ds (some e0) (row.take a))))) (.w (.d (oE (rowE ds (some e0) (row.drop a))))) e17 e18 h) := by
  have b1 := bd_row sm (row.take a) (some e0) 0 (fun x hx => hr x (List.mem_of_mem_take hx)) bd0
  have b2 := bd_row sm (row.drop a) (some e0) 0 (fun x hx => hr x (List.mem_of_mem_drop hx)) bd0
  have l1 : (row.take a).length ≤ 40 := by rw [List.length_take]; omega
  have l2 : (row.drop a).length ≤ 40 := by rw [List.length_drop]; omega
  cases q1 : rowE ds (some e0) (row.take a) with
  | none => exact if_f (andT_f (tst_b rfl)) rfl
  | some x =>
    cases q2 : rowE ds (some e0) (row.drop a) with
    | none => exact if_f (andT_t (tst_b rfl) (andT_f (tst_b rfl))) rfl
    | some y =>
      have bx := b1 x q1
      have b_y := b2 y q2
      obtain ⟨h1, C1⟩ := joined_sp (k + 3) x y (by omega) (by omega)
      have e : jn x y = rowE ds (some e0) row := by
        have := fold_two q1 q2
        rw [← List.map_append, List.take_append_drop] at this
        exact this
      rw [e] at C1
      have bd := bd_row sm row (some e0) 0 hr bd0
      have bd : Bd 4000 (rowE ds (some e0) row) := fun a ha => by have := bd a ha; omega
      obtain ⟨h3, C3⟩ := same_sp (k + 4) (oE (rowE ds (some e0) row)) (pl_oE _) (by have := sz_oE bd; omega)
      generalize rowE ds (some e0) row = z at *
      have C1 : callF fns (k + 5) 1 [.d (eD x), .d (eD y)] [] = .ok (.w (.d (oE z))) h1 := C1
      have C3 : callF fns (k + 5) 54 [.d (oE z), .d (oE z)] [] = .ok (bR true) h3 := C3
      generalize callF fns (k + 5) = call at *
      exact if_f (andT_t (tst_b rfl) (andT_t (tst_b rfl) (notT_eq (k' := true) (tst_b (callH_ev (asC_ev (callH_ev (asC_ev (vE_w rfl) (asC_ev (vE_w rfl) asN_ev)) rfl (callV_p rfl C1 rfl)) (asC_ev (vE_w rfl) asN_ev)) rfl (callV_p rfl C3 rfl))) rfl))) rfl
/-- the end -/
abbrev Z58 (call : Call) : Mn.St := (seqS (ifS (tst (op2 isV (vE 7) (kE .non))) (retS (kE (.bl true))) (nxS)) (seqS (setS 17 (tupE (asC (op2 subV (vE 2) (kE (.int 1))) (asC (kE (.int 0)) (asN))))) (seqS (setS 18 (tupE (asC (op2 addV (op2 ixV (vE 7) (kE (.int 0))) (vE 17)) (asC (op2 addV (op2 ixV (vE 7) (kE (.int 1))) (vE 17)) (asN))))) (retS (andE (callH call 54 (asC (callH call 3 (asC (vE 7) (asC (vE 17) (asN)))) (asC (vE 18) (asN)))) (callH call 55 (asC (callH call 5 (asC (vE 7) (asC (vE 18) (asN)))) (asC (kE (.bl true)) (asN)))))))))
theorem alike_ext {a : Eff} {p : List Int} : (isX a (a.1 ++ p, a.2 ++ p) || isX (a.1 ++ p, a.2 ++ p) a) = true := by
  have : isX (a.1 ++ p, a.2 ++ p) a = true := by simp [isX]
  rw [this, Bool.or_true]
theorem z58_ev (k : Nat) {pr : D} (ho : Bd 4000 o) :
    ∃ st, Z58 (callF fns (k + 5)) (S58 i pr m most long ds row o e8 e9 e10 e11 e12 e13 e14 e15 e16 e17 e18 h) = .rt (bR true) st ∧ st.h = h := by
  cases o with
  | none => exact ⟨_, seq_rt (if_t (tst_b rfl) rfl), rfl⟩
  | some a =>
    have ha := ho a rfl
    have C1 := extended_sp (k + 4) a [m - 1, 0] (by omega) (by simp)
    have hq : Bd 4002 (some (a.1 ++ [m - 1, 0], a.2 ++ [m - 1, 0])) := fun x hx => by
      cases hx
      simp only [List.length_append, List.length_cons, List.length_nil]
      omega
    have hq' := hq _ rfl
    obtain ⟨h3, C3⟩ := same_sp (k + 4) (oE (some (a.1 ++ [m - 1, 0], a.2 ++ [m - 1, 0]))) (pl_oE _) (by have := sz_oE hq; omega)
    obtain ⟨h5, C5⟩ := alike_sp (k + 3) a (a.1 ++ [m - 1, 0], a.2 ++ [m - 1, 0]) (by omega) (by omega)
    rw [alike_ext] at C5
    have C4 := bool_sp (k + 4) true true
    have C1 : callF fns (k + 5) 3 [.d (eD a), .d (pD [m - 1, 0])] [] = .ok (.w (.d (eD (a.1 ++ [m - 1, 0], a.2 ++ [m - 1, 0])))) [] := C1
    have C3 : callF fns (k + 5) 54 [.d (eD (a.1 ++ [m - 1, 0], a.2 ++ [m - 1, 0])), .d (eD (a.1 ++ [m - 1, 0], a.2 ++ [m - 1, 0]))] [] = .ok (bR true) h3 := C3
    have C5 : callF fns (k + 5) 5 [.d (eD a), .d (eD (a.1 ++ [m - 1, 0], a.2 ++ [m - 1, 0]))] [] = .ok (bR true) h5 := C5
    have C4 : callF fns (k + 5) 55 [.d (.bl true), .d (.bl true)] [] = .ok (bR true) [] := C4
    obtain ⟨a1, a2⟩ := a
    simp only at *
    generalize callF fns (k + 5) = call at *
    have s17 : setS 17 (tupE (asC (op2 subV (vE 2) (kE (.int 1))) (asC (kE (.int 0)) (asN)))) (S58 i pr m most long ds row (some (a1, a2)) e8 e9 e10 e11 e12 e13 e14 e15 e16 e17 e18 h) = .nx (S58 i pr m most long ds row (some (a1, a2)) e8 e9 e10 e11 e12 e13 e14 e15 e16 (.w (.d (pD [m - 1, 0]))) e18 h) := rfl
    have s18 : setS 18 (tupE (asC (op2 addV (op2 ixV (vE 7) (kE (.int 0))) (vE 17)) (asC (op2 addV (op2 ixV (vE 7) (kE (.int 1))) (vE 17)) (asN)))) (S58 i pr m most long ds row (some (a1, a2)) e8 e9 e10 e11 e12 e13 e14 e15 e16 (.w (.d (pD [m - 1, 0]))) e18 h) = .nx (S58 i pr m most long ds row (some (a1, a2)) e8 e9 e10 e11 e12 e13 e14 e15 e16 (.w (.d (pD [m - 1, 0]))) (.w (.d (eD (a1 ++ [m - 1, 0], a2 ++ [m - 1, 0])))) h) := by
      refine set_ev (tupD_ev (ws := [.d (pD (a1 ++ [m - 1, 0])), .d (pD (a2 ++ [m - 1, 0]))]) (asC_ev (op2_ev (op2_ev (vE_w rfl) kE_ev rfl) (vE_w rfl) (add_map ?_)) (asC_ev (op2_ev (op2_ev (vE_w rfl) kE_ev rfl) (vE_w rfl) (add_map ?_)) asN_ev)) rfl rfl (by show 2 ≤ 16777216; omega)) rfl
      · simp only [List.length_cons, List.length_nil]; omega
      · simp only [List.length_cons, List.length_nil]; omega
    refine ⟨S58 i pr m most long ds row (some (a1, a2)) e8 e9 e10 e11 e12 e13 e14 e15 e16 (.w (.d (pD [m - 1, 0]))) (.w (.d (eD (a1 ++ [m - 1, 0], a2 ++ [m - 1, 0])))) h, seq_nx (if_f (tst_b rfl) rfl) (seq_nx s17 (seq_nx s18 (ret_ev (andE_t (x := bR true) (s1 := S58 i pr m most long ds row (some (a1, a2)) e8 e9 e10 e11 e12 e13 e14 e15 e16 (.w (.d (pD [m - 1, 0]))) (.w (.d (eD (a1 ++ [m - 1, 0], a2 ++ [m - 1, 0])))) h) ?_ rfl ?_)))), rfl⟩
    · array_get_dec
    · array_get_dec
end
end HeadT

set_option linter.all false
set_option maxRecDepth 100000
set_option maxHeartbeats 2000000
namespace HeadT
open Mn
-- MAC
local macro_rules
  | `(tactic| sizeOf_list_dec) => `(tactic| first | exact rfl | with_reducible assumption | exact decide_eq_true (by omega) | exact decide_eq_false (by omega) | (rw [Bool.not_eq_true']; exact decide_eq_false (by omega)) | (rw [Bool.not_eq_false']; exact decide_eq_true (by omega)) | (simp (config := { decide := true }) only [*, decide_true, decide_false, Bool.not_true, Bool.not_false]; done))
local macro_rules
  | `(tactic| array_mem_dec) => `(tactic| first
    | with_reducible exact len_map
    | with_reducible exact slV_take
    | with_reducible exact slV_drop
    | ((with_reducible apply slV_takez); omega)
    | ((with_reducible apply slV_dropz); omega)
    | ((with_reducible apply add_map); (try simp only [List.length_take, List.length_drop, List.length_append, List.length_cons, List.length_nil]); omega)
    | with_reducible exact eqV_pile
    | with_reducible exact neV_pile
    | with_reducible exact eqV_eff
    | ((with_reducible apply mul_v); omega)
    | ((with_reducible apply mul_one); omega)
    | ((with_reducible apply mul_tup); omega)
    | with_reducible exact tup_map
    | with_reducible exact eqV_int
    | with_reducible exact neV_int
    | ((with_reducible apply ins_slot); exact rfl; ((show (_ : Nat) < 16777216); (try simp only [List.length_map, List.length_append, List.length_cons, List.length_nil]); omega); omega; omega)
    | ((with_reducible apply str_v); assumption)
    | ((with_reducible apply isi_ref); assumption)
    | ((with_reducible apply add_tup); (try simp only [List.length_map, List.length_append, List.length_replicate, List.length_cons, List.length_nil]); omega)
    | ((with_reducible apply mod_v); omega)
    | ((with_reducible apply div_v) <;> omega)
    | ((with_reducible apply app_slot); exact rfl; (show (_ : Nat) < 16777216); (try simp only [List.length_map, List.length_append, List.length_cons, List.length_nil]); omega)
    | ((with_reducible apply pop_slot); exact rfl; omega; omega; first | assumption | exact rfl)
    | ((with_reducible apply putz_own); exact rfl; omega; (try simp only [List.length_set, List.length_map, List.length_append, List.length_replicate, List.length_cons, List.length_nil]); omega)
    | ((with_reducible apply putz_ref); assumption; omega; (try simp only [List.length_set, List.length_map, List.length_append, List.length_replicate, List.length_cons, List.length_nil]); omega)
    | ((with_reducible apply ixz_own); exact rfl; omega; first | assumption | exact rfl)
    | ((with_reducible apply ixz_tup); omega; first | assumption | exact rfl)
    | ((with_reducible apply ixz_ref); assumption; omega; first | assumption | exact rfl)
    | exact rfl
    | assumption)
local macro_rules
  | `(tactic| array_get_dec) => `(tactic| first
    | with_reducible exact kE_ev
    | ((with_reducible apply vE_w); exact rfl)
    | ((with_reducible apply vE_o); exact rfl)
    | ((with_reducible apply op2_ev); array_get_dec; array_get_dec; array_mem_dec)
    | ((with_reducible apply op1_ev); array_get_dec; array_mem_dec)
    | with_reducible exact asN_ev
    | ((with_reducible apply asC_ev); array_get_dec; array_get_dec)
    | ((with_reducible apply tupD_ev); array_get_dec; exact rfl; exact rfl; (show (_ : Nat) ≤ 16777216); simp)
    | ((with_reducible apply tup_ev); array_get_dec; exact rfl; (show (_ : Nat) ≤ 16777216); simp)
    | ((with_reducible apply lst_ev); array_get_dec; exact rfl; (show (_ : Nat) ≤ 16777216); simp)
    | ((with_reducible apply callH_ev); array_get_dec; exact rfl; first | (apply callV_p; exact rfl; assumption; exact rfl) | (apply callV_q; exact rfl; assumption))
    | ((with_reducible apply callE_q); array_get_dec; exact rfl; assumption)
    | ((with_reducible apply meth_ev); array_get_dec; (first | exact rfl | exact isl_ref (by assumption)); array_get_dec; array_mem_dec)
    | ((with_reducible apply tst_eq); array_get_dec; array_mem_dec; first | exact rfl | sizeOf_list_dec)
    | ((with_reducible apply notT_eq); array_get_dec; first | exact rfl | sizeOf_list_dec)
    | ((with_reducible apply and_c); array_get_dec; first | (left; refine ⟨?_, ?_⟩; sizeOf_list_dec; array_get_dec) | (right; refine ⟨?_, ?_⟩; sizeOf_list_dec; exact rfl))
    | ((with_reducible apply or_c); array_get_dec; first | (left; refine ⟨?_, ?_⟩; sizeOf_list_dec; exact rfl) | (right; refine ⟨?_, ?_⟩; sizeOf_list_dec; array_get_dec))
    | ((with_reducible apply andE_c); array_get_dec; array_mem_dec; first | (left; refine ⟨?_, ?_⟩; sizeOf_list_dec; array_get_dec) | (right; refine ⟨?_, ?_⟩; sizeOf_list_dec; exact rfl))
    | ((with_reducible apply orE_c); array_get_dec; array_mem_dec; first | (left; refine ⟨?_, ?_⟩; sizeOf_list_dec; exact rfl) | (right; refine ⟨?_, ?_⟩; sizeOf_list_dec; array_get_dec))
    | ((with_reducible apply chE_t); array_get_dec; array_get_dec; array_mem_dec; array_get_dec; array_mem_dec)
    | ((with_reducible apply chE_f); array_get_dec; array_get_dec; array_mem_dec)
    | ((with_reducible apply ite_c); array_get_dec; first | (left; refine ⟨?_, ?_⟩; sizeOf_list_dec; array_get_dec) | (right; refine ⟨?_, ?_⟩; sizeOf_list_dec; array_get_dec))
    | ((with_reducible apply lc_ev); array_get_dec; assumption)
    | ((with_reducible apply sl_ev); array_get_dec; array_get_dec; array_get_dec; array_mem_dec)
    | with_reducible exact no_ev
    | ((with_reducible apply some_ev); array_get_dec)
    | ((with_reducible apply itR1_z); array_get_dec; omega; omega)
    | ((with_reducible apply itE_ev); array_get_dec; exact rfl)
    | with_reducible exact nx_ev
    | ((with_reducible apply seq_nx); array_get_dec; array_get_dec)
    | ((with_reducible apply seq_rt); array_get_dec)
    | ((with_reducible apply if_c); array_get_dec; first | (left; refine ⟨?_, ?_⟩; sizeOf_list_dec; array_get_dec) | (right; refine ⟨?_, ?_⟩; sizeOf_list_dec; array_get_dec))
    | ((with_reducible apply ret_ev); array_get_dec)
    | ((with_reducible apply set_ev); array_get_dec; exact rfl)
    | ((with_reducible apply expr_ev); array_get_dec)
    | ((with_reducible apply unp_ev); array_get_dec; exact rfl)
    | ((with_reducible apply par_ev); array_get_dec; exact rfl; exact rfl; exact rfl)
    | ((with_reducible apply for_ev); array_get_dec; assumption)
    | ((with_reducible apply put_ev); array_get_dec; array_get_dec; array_get_dec; exact rfl; array_mem_dec))
-- ENDMAC
theorem Sc.lt {i gi li : Nat} {h : List O} (S : Sc i gi li h) : i < h.length ∧ gi < h.length ∧ li < h.length := by
  obtain ⟨_, _, _, _, S⟩ := S
  exact ⟨(List.getElem?_eq_some_iff.mp S.at_).1, (List.getElem?_eq_some_iff.mp S.g).1, (List.getElem?_eq_some_iff.mp S.l).1⟩
theorem itR_ref {s : Mn.S} {j : Nat} {ws : List W} (h : s.h[j]? = some (.lst ws)) : itR (.w (.ref j)) s = .ok ⟨ws, some (j, .lst ws)⟩ s := by
  unfold itR
  rw [seq_ref h]
  rfl
theorem asked_sp (k : Nat) {i gi li most long : Nat} {kk nn bb : D} {m : Int} {ds : List Dd} {h : List O} (S : Sc i gi li h) (sm : Sm ds) (hd1 : 1 ≤ ds.length) (hd : ds.length ≤ 8) (hm : most ≤ 900) (cap : (ds.length + 1) ^ most ≤ 1000000) (hlong : long ≤ 30) (m1 : 1 ≤ m) (m2 : m ≤ 1000) :
    ∃ h', callF fns (k + 6) 58 [.ref i, .d (prD kk nn bb ds), zW m, iW most, iW long] h = .ok (bR true) h' ∧ Gw i gi li h h' := by
  obtain ⟨row, h1, C6, l1, hr, hl⟩ := drawn_sp (k + 3) (most := long) S sm hd1 hd hlong
  obtain ⟨hz1, C7⟩ := lrow_sp (k + 3) ds row sm hr (by omega)
  have bd := bd_row sm row (some e0) 0 hr bd0
  have bd : Bd 4000 (rowE ds (some e0) row) := fun a ha => by have := bd a ha; omega
  obtain ⟨es, h2, C8, l2, el, eb⟩ := effects_sp (k + 2) (row := row) l1.sc sm hr (by omega) m1 m2
  have g3 := Sc.app l2.sc [.lst (es.map eWd)]
  generalize hh3 : h2 ++ [O.lst (es.map eWd)] = h3 at g3
  have lt2 := Sc.lt l2.sc
  have at3 : h3[h2.length]? = some (.lst (es.map eWd)) := by rw [← hh3]; simp
  obtain ⟨other, h4, C10, l4, hro, hlo⟩ := drawn_sp (k + 3) (most := long) g3.sc sm hd1 hd hlong
  obtain ⟨x, h5, C11, l5, x1, x2⟩ := ld_call (k + 4) (p := 4) (v := 4) (m := (row.length : Nat) + 1) rfl l4.sc (by omega) (by omega) (by omega)
  obtain ⟨a, rfl⟩ := Int.eq_ofNat_of_zero_le x1
  obtain ⟨y, h6, C12, l6, y1, y2⟩ := ld_call (k + 4) (p := 6) (v := 6) (m := (ds.length : Nat)) rfl l5.sc (by omega) (by omega) (by omega)
  obtain ⟨d, rfl⟩ := Int.eq_ofNat_of_zero_le y1
  have g7 := Sc.app l6.sc [.lst ((eightR row a d other).map rwWd)]
  generalize hh7 : h6 ++ [O.lst ((eightR row a d other).map rwWd)] = h7 at g7
  have len6 : h6.length = h3.length := by rw [l6.len, l5.len, l4.len]
  have len3 : h3.length = h2.length + 1 := by rw [← hh3]; simp
  have at6 : h6[h2.length]? = some (.lst (es.map eWd)) := by
    rw [l6.oth _ (by omega) (by omega) (by omega), l5.oth _ (by omega) (by omega) (by omega), l4.oth _ (by omega) (by omega) (by omega)]
    exact at3
  have at7 : h7[h2.length]? = some (.lst (es.map eWd)) := by
    rw [← hh7, List.getElem?_append_left (by omega)]; exact at6
  have at7b : h7[h6.length]? = some (.lst ((eightR row a d other).map rwWd)) := by rw [← hh7]; simp
  have ie := in_eight (a := a) (d := d) (other := other) hr (by omega) hro (by omega) (by omega)
  obtain ⟨hz2, C15⟩ := lrow_sp (k + 3) ds (row.take a) sm (fun x hx => hr x (List.mem_of_mem_take hx)) (by rw [List.length_take]; omega)
  obtain ⟨hz3, C16⟩ := lrow_sp (k + 3) ds (row.drop a) sm (fun x hx => hr x (List.mem_of_mem_drop hx)) (by rw [List.length_drop]; omega)
  -- the steps
  have K := a58_ev k (i := i) (kk := kk) (nn := nn) (bb := bb) (m := m) (most := most) (long := long) (e8 := .un) (e9 := .un) (e10 := .un) (e11 := .un) (e13 := .un) (e14 := .un) (e15 := .un) (e16 := .un) (e17 := .un) (e18 := .un) (h := h1) sm hr (by omega)
  have J := fun (e8 e9 e10 e11 e12 e13 e14 e17 e18 : E0) => j58_ev k (i := i) (m := m) (most := most) (long := long) (e8 := e8) (e9 := e9) (e10 := e10) (e11 := e11) (e12 := e12) (e13 := e13) (e14 := e14) (e17 := e17) (e18 := e18) (h := h7) (a := a) (pr := prD kk nn bb ds) sm hr (by omega)
  have Z := fun (e8 e9 e10 e11 e12 e13 e14 e15 e16 : E0) => z58_ev k (i := i) (m := m) (most := most) (long := long) (ds := ds) (row := row) (o := rowE ds (some e0) row) (e8 := e8) (e9 := e9) (e10 := e10) (e11 := e11) (e12 := e12) (e13 := e13) (e14 := e14) (e15 := e15) (e16 := e16) (e17 := .un) (e18 := .un) (h := h7) (pr := prD kk nn bb ds) bd
  obtain ⟨e9, L1⟩ := loopJ (kp := some (h2.length, .lst (es.map eWd))) (j := 9) (B := B58_1 (callF fns (k + 5))) (ρ := (S58 i (prD kk nn bb ds) m most long ds row (rowE ds (some e0) row) (.w (.ref h2.length)) .un .un .un .un .un .un .un .un .un .un h3).ρ) (h := h3) (by show 9 < 19; omega) (fun e => decide_eq_true at3) (es.map eWd) .un (fun w hw => by
    obtain ⟨e, he, rfl⟩ := List.mem_map.mp hw
    exact b58_1 k sm hd hm cap (eb e he))
  have L2 : ∃ (e9' e14 : E0), forL (some (h6.length, .lst ((eightR row a d other).map rwWd))) (tgV 14) (B58_3 (callF fns (k + 5))) ((eightR row a d other).map rwWd) (S58 i (prD kk nn bb ds) m most long ds row (rowE ds (some e0) row) (.w (.ref h2.length)) e9 (.w (.d (rwD other))) (.w (iW a)) (.w (iW d)) (.w (.ref h6.length)) .un .un .un .un .un h7) = .nx (S58 i (prD kk nn bb ds) m most long ds row (rowE ds (some e0) row) (.w (.ref h2.length)) e9' (.w (.d (rwD other))) (.w (iW a)) (.w (iW d)) (.w (.ref h6.length)) e14 .un .un .un .un h7) := by
    obtain ⟨s', L, e9', e14, rfl⟩ := forL_inv (k := some (h6.length, .lst ((eightR row a d other).map rwWd))) (g := tgV 14) (p := B58_3 (callF fns (k + 5))) (I := fun _ s => ∃ e9 e14, s = S58 i (prD kk nn bb ds) m most long ds row (rowE ds (some e0) row) (.w (.ref h2.length)) e9 (.w (.d (rwD other))) (.w (iW a)) (.w (iW d)) (.w (.ref h6.length)) e14 .un .un .un .un h7) ((eightR row a d other).map rwWd) 0 (fun _ s ⟨_, _, e⟩ => by rw [e]; exact decide_eq_true at7b) (fun n s w hw ⟨e9, e14, e⟩ => by
      subst e
      obtain ⟨r, hr', rfl⟩ := List.mem_map.mp (List.mem_of_getElem? hw)
      have q := ie r hr'
      obtain ⟨e9', L⟩ := loopJ (kp := some (h2.length, .lst (es.map eWd))) (j := 9) (B := B58_2 (callF fns (k + 5))) (ρ := (S58 i (prD kk nn bb ds) m most long ds row (rowE ds (some e0) row) (.w (.ref h2.length)) e9 (.w (.d (rwD other))) (.w (iW a)) (.w (iW d)) (.w (.ref h6.length)) (.w (rwWd r)) .un .un .un .un h7).ρ) (h := h7) (by show 9 < 19; omega) (fun e => decide_eq_true at7) (es.map eWd) e9 (fun w hw => by
        obtain ⟨e, he, rfl⟩ := List.mem_map.mp hw
        exact b58_2 k sm q.1 q.2 (eb e he))
      refine ⟨_, _, rfl, ?_, e9', .w (rwWd r), rfl⟩
      unfold B58_3
      exact for_ev (i := ⟨es.map eWd, some (h2.length, .lst (es.map eWd))⟩) (itE_ev (vE_w rfl) (itR_ref at7)) L) (s := S58 i (prD kk nn bb ds) m most long ds row (rowE ds (some e0) row) (.w (.ref h2.length)) e9 (.w (.d (rwD other))) (.w (iW a)) (.w (iW d)) (.w (.ref h6.length)) .un .un .un .un .un h7) ⟨_, _, rfl⟩
    exact ⟨e9', e14, L⟩
  obtain ⟨e9', e14, L2⟩ := L2
  have J := J (.w (.ref h2.length)) e9' (.w (.d (rwD other))) (.w (iW a)) (.w (iW d)) (.w (.ref h6.length)) e14 .un .un
  obtain ⟨st, Z, hst⟩ := Z (.w (.ref h2.length)) e9' (.w (.d (rwD other))) (.w (iW a)) (.w (iW d)) (.w (.ref h6.length)) e14 (.w (.d (oE (rowE ds (some e0) (row.take a))))) (.w (.d (oE (rowE ds (some e0) (row.drop a)))))
  have gg : Gw i gi li h h7 := ((l1.trans l2).gw.trans g3).trans (((l4.trans l5).trans l6).gw.trans g7)
  refine ⟨h7, ?_, gg⟩
  have C6 : callF fns (k + 5) 56 [.ref i, .d (dsD ds), iW long] h = .ok (.w (.d (rwD row))) h1 := C6
  have C7 : callF fns (k + 5) 51 [.d (dsD ds), .d (rwD row)] [] = .ok (.w (.d (oE (rowE ds (some e0) row)))) hz1 := C7
  have C8 : callF fns (k + 5) 57 [.ref i, .d (dsD ds), .d (rwD row), zW m] h1 = .ok (.new (.lst (es.map eWd))) h2 := C8
  have C10 : callF fns (k + 5) 56 [.ref i, .d (dsD ds), iW long] h3 = .ok (.w (.d (rwD other))) h4 := C10
  have C11 : callF fns (k + 5) 47 [.ref i, .d (.int 4), .d (.int ((row.length : Nat) + 1))] h4 = .ok (iR (a : Nat)) h5 := C11
  have C12 : callF fns (k + 5) 47 [.ref i, .d (.int 6), .d (.int (ds.length : Nat))] h5 = .ok (iR (d : Nat)) h6 := C12
  have C15 : callF fns (k + 5) 51 [.d (dsD ds), .d (rwD (row.take a))] [] = .ok (.w (.d (oE (rowE ds (some e0) (row.take a))))) hz2 := C15
  have C16 : callF fns (k + 5) 51 [.d (dsD ds), .d (rwD (row.drop a))] [] = .ok (.w (.d (oE (rowE ds (some e0) (row.drop a))))) hz3 := C16
  apply call_ex (B := B58) (ρ := [.w (.ref i), .w (.d (prD kk nn bb ds)), .w (zW m), .w (iW most), .w (iW long), .un, .un, .un, .un, .un, .un, .un, .un, .un, .un, .un, .un, .un, .un]) rfl rfl rfl
  refine ⟨bR true, st, ?_, by rw [← hst]; rfl⟩
  generalize callF fns (k + 5) = call at *
  generalize rowE ds (some e0) row = o at *
  have R := r58_ev (i := i) (m := m) (most := most) (long := long) (ds := ds) (row := row) (o := o) (e8 := .w (.ref h2.length)) (e9 := e9) (e13 := .un) (e14 := .un) (e15 := .un) (e16 := .un) (e17 := .un) (e18 := .un) (h := h6) (a := a) (d := d) (other := other) (pr := prD kk nn bb ds) (by omega)
  unfold B58
  refine seq_nx (s1 := ⟨[.w (.ref i), .w (.d (prD kk nn bb ds)), .w (zW m), .w (iW most), .w (iW long), .w (.d (dsD ds)), .un, .un, .un, .un, .un, .un, .un, .un, .un, .un, .un, .un, .un], h⟩) rfl ?_
  refine seq_nx (s1 := ⟨[.w (.ref i), .w (.d (prD kk nn bb ds)), .w (zW m), .w (iW most), .w (iW long), .w (.d (dsD ds)), .w (.d (rwD row)), .un, .un, .un, .un, .un, .un, .un, .un, .un, .un, .un, .un], h1⟩) ?_ ?_
  · clear K J L1 L2 R Z
    array_get_dec
  refine seq_nx (s1 := S58 i (prD kk nn bb ds) m most long ds row o .un .un .un .un .un .un .un .un .un .un .un h1) ?_ ?_
  · clear K J L1 L2 R Z
    array_get_dec
  refine seq_nx K ?_
  refine seq_nx (s1 := S58 i (prD kk nn bb ds) m most long ds row o (.own (.lst (es.map eWd))) .un .un .un .un .un .un .un .un .un .un h2) ?_ ?_
  · clear K J L1 L2 R Z
    array_get_dec
  refine seq_nx (s1 := S58 i (prD kk nn bb ds) m most long ds row o (.w (.ref h2.length)) e9 .un .un .un .un .un .un .un .un .un h3) (for_ev (i := ⟨es.map eWd, some (h2.length, .lst (es.map eWd))⟩) (s1 := S58 i (prD kk nn bb ds) m most long ds row o (.w (.ref h2.length)) .un .un .un .un .un .un .un .un .un .un h3) (by rw [← hh3]; rfl) L1) ?_
  refine seq_nx (s1 := S58 i (prD kk nn bb ds) m most long ds row o (.w (.ref h2.length)) e9 (.w (.d (rwD other))) .un .un .un .un .un .un .un .un h4) ?_ ?_
  · clear K J L1 L2 R Z
    array_get_dec
  refine seq_nx (s1 := S58 i (prD kk nn bb ds) m most long ds row o (.w (.ref h2.length)) e9 (.w (.d (rwD other))) (.w (iW a)) .un .un .un .un .un .un .un h5) ?_ ?_
  · clear K J L1 L2 R Z
    array_get_dec
  refine seq_nx (s1 := S58 i (prD kk nn bb ds) m most long ds row o (.w (.ref h2.length)) e9 (.w (.d (rwD other))) (.w (iW a)) (.w (iW d)) .un .un .un .un .un .un h6) ?_ ?_
  · clear K J L1 L2 R Z
    array_get_dec
  refine seq_nx (s1 := S58 i (prD kk nn bb ds) m most long ds row o (.w (.ref h2.length)) e9 (.w (.d (rwD other))) (.w (iW a)) (.w (iW d)) (.own (.lst ((eightR row a d other).map rwWd))) .un .un .un .un .un h6) (set_ev R rfl) ?_
  refine seq_nx (for_ev (i := ⟨(eightR row a d other).map rwWd, some (h6.length, .lst ((eightR row a d other).map rwWd))⟩) (s1 := S58 i (prD kk nn bb ds) m most long ds row o (.w (.ref h2.length)) e9 (.w (.d (rwD other))) (.w (iW a)) (.w (iW d)) (.w (.ref h6.length)) .un .un .un .un .un h7) (by rw [← hh7]; rfl) L2) ?_
  refine seq_nx (s1 := S58 i (prD kk nn bb ds) m most long ds row o (.w (.ref h2.length)) e9' (.w (.d (rwD other))) (.w (iW a)) (.w (iW d)) (.w (.ref h6.length)) e14 (.w (.d (oE (rowE ds (some e0) (row.take a))))) (.w (.d (oE (rowE ds (some e0) (row.drop a))))) .un .un h7) ?_ ?_
  · clear K J L1 L2 R Z
    array_get_dec
  refine seq_nx J Z
end HeadT

set_option linter.all false
set_option maxRecDepth 100000
set_option maxHeartbeats 2000000
namespace HeadT
open Mn
-- MAC
local macro_rules
  | `(tactic| sizeOf_list_dec) => `(tactic| first | exact rfl | with_reducible assumption | exact decide_eq_true (by omega) | exact decide_eq_false (by omega) | (rw [Bool.not_eq_true']; exact decide_eq_false (by omega)) | (rw [Bool.not_eq_false']; exact decide_eq_true (by omega)) | (simp (config := { decide := true }) only [*, decide_true, decide_false, Bool.not_true, Bool.not_false]; done))
local macro_rules
  | `(tactic| array_mem_dec) => `(tactic| first
    | with_reducible exact len_map
    | with_reducible exact slV_take
    | with_reducible exact slV_drop
    | ((with_reducible apply slV_takez); omega)
    | ((with_reducible apply slV_dropz); omega)
    | ((with_reducible apply add_map); (try simp only [List.length_take, List.length_drop, List.length_append, List.length_cons, List.length_nil]); omega)
    | with_reducible exact eqV_pile
    | with_reducible exact neV_pile
    | with_reducible exact eqV_eff
    | ((with_reducible apply mul_v); omega)
    | ((with_reducible apply mul_one); omega)
    | ((with_reducible apply mul_tup); omega)
    | with_reducible exact tup_map
    | with_reducible exact eqV_int
    | with_reducible exact neV_int
    | ((with_reducible apply ins_slot); exact rfl; ((show (_ : Nat) < 16777216); (try simp only [List.length_map, List.length_append, List.length_cons, List.length_nil]); omega); omega; omega)
    | ((with_reducible apply str_v); assumption)
    | ((with_reducible apply isi_ref); assumption)
    | ((with_reducible apply add_tup); (try simp only [List.length_map, List.length_append, List.length_replicate, List.length_cons, List.length_nil]); omega)
    | ((with_reducible apply mod_v); omega)
    | ((with_reducible apply div_v) <;> omega)
    | ((with_reducible apply app_slot); exact rfl; (show (_ : Nat) < 16777216); (try simp only [List.length_map, List.length_append, List.length_cons, List.length_nil]); omega)
    | ((with_reducible apply pop_slot); exact rfl; omega; omega; first | assumption | exact rfl)
    | ((with_reducible apply putz_own); exact rfl; omega; (try simp only [List.length_set, List.length_map, List.length_append, List.length_replicate, List.length_cons, List.length_nil]); omega)
    | ((with_reducible apply putz_ref); assumption; omega; (try simp only [List.length_set, List.length_map, List.length_append, List.length_replicate, List.length_cons, List.length_nil]); omega)
    | ((with_reducible apply ixz_own); exact rfl; omega; first | assumption | exact rfl)
    | ((with_reducible apply ixz_tup); omega; first | assumption | exact rfl)
    | ((with_reducible apply ixz_ref); assumption; omega; first | assumption | exact rfl)
    | exact rfl
    | assumption)
local macro_rules
  | `(tactic| array_get_dec) => `(tactic| first
    | with_reducible exact kE_ev
    | ((with_reducible apply vE_w); exact rfl)
    | ((with_reducible apply vE_o); exact rfl)
    | ((with_reducible apply op2_ev); array_get_dec; array_get_dec; array_mem_dec)
    | ((with_reducible apply op1_ev); array_get_dec; array_mem_dec)
    | with_reducible exact asN_ev
    | ((with_reducible apply asC_ev); array_get_dec; array_get_dec)
    | ((with_reducible apply tupD_ev); array_get_dec; exact rfl; exact rfl; (show (_ : Nat) ≤ 16777216); simp)
    | ((with_reducible apply tup_ev); array_get_dec; exact rfl; (show (_ : Nat) ≤ 16777216); simp)
    | ((with_reducible apply lst_ev); array_get_dec; exact rfl; (show (_ : Nat) ≤ 16777216); simp)
    | ((with_reducible apply callH_ev); array_get_dec; exact rfl; first | (apply callV_p; exact rfl; assumption; exact rfl) | (apply callV_q; exact rfl; assumption))
    | ((with_reducible apply callE_q); array_get_dec; exact rfl; assumption)
    | ((with_reducible apply meth_ev); array_get_dec; (first | exact rfl | exact isl_ref (by assumption)); array_get_dec; array_mem_dec)
    | ((with_reducible apply tst_eq); array_get_dec; array_mem_dec; first | exact rfl | sizeOf_list_dec)
    | ((with_reducible apply notT_eq); array_get_dec; first | exact rfl | sizeOf_list_dec)
    | ((with_reducible apply and_c); array_get_dec; first | (left; refine ⟨?_, ?_⟩; sizeOf_list_dec; array_get_dec) | (right; refine ⟨?_, ?_⟩; sizeOf_list_dec; exact rfl))
    | ((with_reducible apply or_c); array_get_dec; first | (left; refine ⟨?_, ?_⟩; sizeOf_list_dec; exact rfl) | (right; refine ⟨?_, ?_⟩; sizeOf_list_dec; array_get_dec))
    | ((with_reducible apply andE_c); array_get_dec; array_mem_dec; first | (left; refine ⟨?_, ?_⟩; sizeOf_list_dec; array_get_dec) | (right; refine ⟨?_, ?_⟩; sizeOf_list_dec; exact rfl))
    | ((with_reducible apply orE_c); array_get_dec; array_mem_dec; first | (left; refine ⟨?_, ?_⟩; sizeOf_list_dec; exact rfl) | (right; refine ⟨?_, ?_⟩; sizeOf_list_dec; array_get_dec))
    | ((with_reducible apply chE_t); array_get_dec; array_get_dec; array_mem_dec; array_get_dec; array_mem_dec)
    | ((with_reducible apply chE_f); array_get_dec; array_get_dec; array_mem_dec)
    | ((with_reducible apply ite_c); array_get_dec; first | (left; refine ⟨?_, ?_⟩; sizeOf_list_dec; array_get_dec) | (right; refine ⟨?_, ?_⟩; sizeOf_list_dec; array_get_dec))
    | ((with_reducible apply lc_ev); array_get_dec; assumption)
    | ((with_reducible apply sl_ev); array_get_dec; array_get_dec; array_get_dec; array_mem_dec)
    | with_reducible exact no_ev
    | ((with_reducible apply some_ev); array_get_dec)
    | ((with_reducible apply itR1_z); array_get_dec; omega; omega)
    | ((with_reducible apply itE_ev); array_get_dec; exact rfl)
    | with_reducible exact nx_ev
    | ((with_reducible apply seq_nx); array_get_dec; array_get_dec)
    | ((with_reducible apply seq_rt); array_get_dec)
    | ((with_reducible apply if_c); array_get_dec; first | (left; refine ⟨?_, ?_⟩; sizeOf_list_dec; array_get_dec) | (right; refine ⟨?_, ?_⟩; sizeOf_list_dec; array_get_dec))
    | ((with_reducible apply ret_ev); array_get_dec)
    | ((with_reducible apply set_ev); array_get_dec; exact rfl)
    | ((with_reducible apply expr_ev); array_get_dec)
    | ((with_reducible apply unp_ev); array_get_dec; exact rfl)
    | ((with_reducible apply par_ev); array_get_dec; exact rfl; exact rfl; exact rfl)
    | ((with_reducible apply for_ev); array_get_dec; assumption)
    | ((with_reducible apply put_ev); array_get_dec; array_get_dec; array_get_dec; exact rfl; array_mem_dec))
-- ENDMAC
def isOkT : Res2 → Bool
  | .ok (.w (.d (.bl true))) _ => true
  | _ => false
theorem hand_ok : ∃ h, callF fns 39 59 [] [] = .ok (bR true) h := by
  have : isOkT (callF fns 39 59 [] []) = true := by decide +kernel
  generalize callF fns 39 59 [] [] = r at this
  match r, this with
  | .ok (.w (.d (.bl true))) h, _ => exact ⟨h, rfl⟩
end HeadT

set_option linter.all false
set_option maxRecDepth 100000
set_option maxHeartbeats 2000000
namespace HeadT
open Mn
-- MAC
local macro_rules
  | `(tactic| sizeOf_list_dec) => `(tactic| first | exact rfl | with_reducible assumption | exact decide_eq_true (by omega) | exact decide_eq_false (by omega) | (rw [Bool.not_eq_true']; exact decide_eq_false (by omega)) | (rw [Bool.not_eq_false']; exact decide_eq_true (by omega)) | (simp (config := { decide := true }) only [*, decide_true, decide_false, Bool.not_true, Bool.not_false]; done))
local macro_rules
  | `(tactic| array_mem_dec) => `(tactic| first
    | with_reducible exact len_map
    | with_reducible exact slV_take
    | with_reducible exact slV_drop
    | ((with_reducible apply slV_takez); omega)
    | ((with_reducible apply slV_dropz); omega)
    | ((with_reducible apply add_map); (try simp only [List.length_take, List.length_drop, List.length_append, List.length_cons, List.length_nil]); omega)
    | with_reducible exact eqV_pile
    | with_reducible exact neV_pile
    | with_reducible exact eqV_eff
    | ((with_reducible apply mul_v); omega)
    | ((with_reducible apply mul_one); omega)
    | ((with_reducible apply mul_tup); omega)
    | with_reducible exact tup_map
    | with_reducible exact eqV_int
    | with_reducible exact neV_int
    | ((with_reducible apply ins_slot); exact rfl; ((show (_ : Nat) < 16777216); (try simp only [List.length_map, List.length_append, List.length_cons, List.length_nil]); omega); omega; omega)
    | ((with_reducible apply str_v); assumption)
    | ((with_reducible apply isi_ref); assumption)
    | ((with_reducible apply add_tup); (try simp only [List.length_map, List.length_append, List.length_replicate, List.length_cons, List.length_nil]); omega)
    | ((with_reducible apply mod_v); omega)
    | ((with_reducible apply div_v) <;> omega)
    | ((with_reducible apply app_slot); exact rfl; (show (_ : Nat) < 16777216); (try simp only [List.length_map, List.length_append, List.length_cons, List.length_nil]); omega)
    | ((with_reducible apply pop_slot); exact rfl; omega; omega; first | assumption | exact rfl)
    | ((with_reducible apply putz_own); exact rfl; omega; (try simp only [List.length_set, List.length_map, List.length_append, List.length_replicate, List.length_cons, List.length_nil]); omega)
    | ((with_reducible apply putz_ref); assumption; omega; (try simp only [List.length_set, List.length_map, List.length_append, List.length_replicate, List.length_cons, List.length_nil]); omega)
    | ((with_reducible apply ixz_own); exact rfl; omega; first | assumption | exact rfl)
    | ((with_reducible apply ixz_tup); omega; first | assumption | exact rfl)
    | ((with_reducible apply ixz_ref); assumption; omega; first | assumption | exact rfl)
    | exact rfl
    | assumption)
local macro_rules
  | `(tactic| array_get_dec) => `(tactic| first
    | with_reducible exact kE_ev
    | ((with_reducible apply vE_w); exact rfl)
    | ((with_reducible apply vE_o); exact rfl)
    | ((with_reducible apply op2_ev); array_get_dec; array_get_dec; array_mem_dec)
    | ((with_reducible apply op1_ev); array_get_dec; array_mem_dec)
    | with_reducible exact asN_ev
    | ((with_reducible apply asC_ev); array_get_dec; array_get_dec)
    | ((with_reducible apply tupD_ev); array_get_dec; exact rfl; exact rfl; (show (_ : Nat) ≤ 16777216); simp)
    | ((with_reducible apply tup_ev); array_get_dec; exact rfl; (show (_ : Nat) ≤ 16777216); simp)
    | ((with_reducible apply lst_ev); array_get_dec; exact rfl; (show (_ : Nat) ≤ 16777216); simp)
    | ((with_reducible apply callH_ev); array_get_dec; exact rfl; first | (apply callV_p; exact rfl; assumption; exact rfl) | (apply callV_q; exact rfl; assumption))
    | ((with_reducible apply callE_q); array_get_dec; exact rfl; assumption)
    | ((with_reducible apply meth_ev); array_get_dec; (first | exact rfl | exact isl_ref (by assumption)); array_get_dec; array_mem_dec)
    | ((with_reducible apply tst_eq); array_get_dec; array_mem_dec; first | exact rfl | sizeOf_list_dec)
    | ((with_reducible apply notT_eq); array_get_dec; first | exact rfl | sizeOf_list_dec)
    | ((with_reducible apply and_c); array_get_dec; first | (left; refine ⟨?_, ?_⟩; sizeOf_list_dec; array_get_dec) | (right; refine ⟨?_, ?_⟩; sizeOf_list_dec; exact rfl))
    | ((with_reducible apply or_c); array_get_dec; first | (left; refine ⟨?_, ?_⟩; sizeOf_list_dec; exact rfl) | (right; refine ⟨?_, ?_⟩; sizeOf_list_dec; array_get_dec))
    | ((with_reducible apply andE_c); array_get_dec; array_mem_dec; first | (left; refine ⟨?_, ?_⟩; sizeOf_list_dec; array_get_dec) | (right; refine ⟨?_, ?_⟩; sizeOf_list_dec; exact rfl))
    | ((with_reducible apply orE_c); array_get_dec; array_mem_dec; first | (left; refine ⟨?_, ?_⟩; sizeOf_list_dec; exact rfl) | (right; refine ⟨?_, ?_⟩; sizeOf_list_dec; array_get_dec))
    | ((with_reducible apply chE_t); array_get_dec; array_get_dec; array_mem_dec; array_get_dec; array_mem_dec)
    | ((with_reducible apply chE_f); array_get_dec; array_get_dec; array_mem_dec)
    | ((with_reducible apply ite_c); array_get_dec; first | (left; refine ⟨?_, ?_⟩; sizeOf_list_dec; array_get_dec) | (right; refine ⟨?_, ?_⟩; sizeOf_list_dec; array_get_dec))
    | ((with_reducible apply lc_ev); array_get_dec; assumption)
    | ((with_reducible apply sl_ev); array_get_dec; array_get_dec; array_get_dec; array_mem_dec)
    | with_reducible exact no_ev
    | ((with_reducible apply some_ev); array_get_dec)
    | ((with_reducible apply itR1_z); array_get_dec; omega; omega)
    | ((with_reducible apply itE_ev); array_get_dec; exact rfl)
    | with_reducible exact nx_ev
    | ((with_reducible apply seq_nx); array_get_dec; array_get_dec)
    | ((with_reducible apply seq_rt); array_get_dec)
    | ((with_reducible apply if_c); array_get_dec; first | (left; refine ⟨?_, ?_⟩; sizeOf_list_dec; array_get_dec) | (right; refine ⟨?_, ?_⟩; sizeOf_list_dec; array_get_dec))
    | ((with_reducible apply ret_ev); array_get_dec)
    | ((with_reducible apply set_ev); array_get_dec; exact rfl)
    | ((with_reducible apply expr_ev); array_get_dec)
    | ((with_reducible apply unp_ev); array_get_dec; exact rfl)
    | ((with_reducible apply par_ev); array_get_dec; exact rfl; exact rfl; exact rfl)
    | ((with_reducible apply for_ev); array_get_dec; assumption)
    | ((with_reducible apply put_ev); array_get_dec; array_get_dec; array_get_dec; exact rfl; array_mem_dec))
-- ENDMAC
theorem sm_of {ds : List Dd} (h : Sm3 ds) : Sm ds := fun d hd => by have := h d hd; omega
theorem cap_le {b m B M : Nat} (hb : b ≤ B) (hm : m ≤ M) (h1 : 1 ≤ B) (h : B ^ M ≤ 1000000) : b ^ m ≤ 1000000 :=
  Nat.le_trans (Nat.le_trans (Nat.pow_le_pow_left hb m) (Nat.pow_le_pow_right h1 hm)) h
abbrev S60 (ns : List Int) (i : Nat) (wide : Bool) (e3 e4 e5 : E0) (h : List O) : Mn.S := ⟨[.w (.scr ns), .w (.ref i), .w (.d (.bl wide)), e3, e4, e5], h⟩
theorem ask60 (k : Nat) {ns : List Int} {i gi li long : Nat} {wide : Bool} {e3 e5 : E0} {h ha : List O} {m v : Int} {DE ME : Ex} {ds : List Dd} (hv : v = (long : Nat)) (hDE : DE (S60 ns i wide e3 (.w (zW m)) e5 h) = .ok (.w (.d (dsD ds))) (S60 ns i wide e3 (.w (zW m)) e5 ha)) (S : Sc i gi li ha) (s3 : Sm3 ds) (hd1 : 1 ≤ ds.length) (hd : ds.length ≤ 8) (hlong : long ≤ 30) (m1 : 1 ≤ m) (m2 : m ≤ 1000)
    (hME : ∀ hb, Sc i gi li hb → ∃ (hc : List O) (most : Nat), ME (S60 ns i wide e3 (.w (zW m)) e5 hb) = .ok (iR (most : Nat)) (S60 ns i wide e3 (.w (zW m)) e5 hc) ∧ Sc i gi li hc ∧ (ds.length + 1) ^ most ≤ 1000000 ∧ most ≤ 900) :
    ∃ h', callH (callF fns (k + 6)) 58 (asC (vE 1) (asC (callH (callF fns (k + 6)) 49 (asC (vE 1) (asC DE (asC (vE 4) asN)))) (asC (vE 4) (asC ME (asC (kE (.int v)) asN))))) (S60 ns i wide e3 (.w (zW m)) e5 h) = .ok (bR true) (S60 ns i wide e3 (.w (zW m)) e5 h') ∧ Sc i gi li h' := by
  subst hv
  obtain ⟨kk, nn, bb, hb, C49, l1⟩ := program_sp (k + 4) (m := m) (ds := ds) S
  obtain ⟨hc, most, E, Sc', cap, hm⟩ := hME hb l1.sc
  obtain ⟨h', C58, g⟩ := asked_sp k (kk := kk) (nn := nn) (bb := bb) (m := m) (most := most) (long := long) Sc' (sm_of s3) hd1 hd hm cap hlong m1 m2
  refine ⟨h', ?_, g.sc⟩
  have C49 : callF fns (k + 6) 49 [.ref i, .d (dsD ds), zW m] ha = .ok (.w (.d (prD kk nn bb ds))) hb := C49
  generalize callF fns (k + 6) = call at *
  exact (callH_ev (asC_ev (vE_w rfl) (asC_ev (callH_ev (asC_ev (vE_w rfl) (asC_ev hDE (asC_ev (vE_w rfl) asN_ev))) rfl (callV_q rfl C49)) (asC_ev (vE_w rfl) (asC_ev E (asC_ev kE_ev asN_ev))))) rfl (callV_q rfl C58)).trans rfl
/-- deeds are drawn -/
theorem deeds60 (k : Nat) {ns : List Int} {i gi li many : Nat} {wide : Bool} {e3 e5 : E0} {h ha : List O} {m : Int} {N : Ex} (S : Sc i gi li ha) (hN : N (S60 ns i wide e3 (.w (zW m)) e5 h) = .ok (iR (many : Nat)) (S60 ns i wide e3 (.w (zW m)) e5 ha)) (hm : many ≤ 8) (m1 : 1 ≤ m) (m2 : m ≤ 1000) :
    ∃ (ds : List Dd) (h' : List O), callH (callF fns (k + 2)) 48 (asC (vE 1) (asC N (asC (vE 4) asN))) (S60 ns i wide e3 (.w (zW m)) e5 h) = .ok (.w (.d (dsD ds))) (S60 ns i wide e3 (.w (zW m)) e5 h') ∧ Sc i gi li h' ∧ ds.length = many ∧ Sm3 ds := by
  obtain ⟨ds, h', C, ld, len, s3⟩ := deeds_sp k S hm m1 m2
  exact ⟨ds, h', (callH_ev (asC_ev (vE_w rfl) (asC_ev hN (asC_ev (vE_w rfl) asN_ev))) rfl (callV_q rfl C)).trans rfl, ld.sc, len, s3⟩
abbrev K60 (call : Call) : Mn.St := (setS 4 (op2 addV (kE (.int 1)) (callH call 47 (asC (vE 1) (asC (kE (.int 0)) (asC (kE (.int 3)) (asN)))))))
theorem k60_ev (k : Nat) {ns : List Int} {i gi li : Nat} {wide : Bool} {e3 e4 e5 : E0} {h : List O} (S : Sc i gi li h) :
    ∃ (m : Int) (h' : List O), K60 (callF fns (k + 1)) (S60 ns i wide e3 e4 e5 h) = .nx (S60 ns i wide e3 (.w (zW m)) e5 h') ∧ Sc i gi li h' ∧ 1 ≤ m ∧ m ≤ 1000 := by
  obtain ⟨x, ha, C, ld, r1, r2⟩ := cl_pick k (s := S60 ns i wide e3 e4 e5 h) (e0 := vE 0 |> fun _ => vE 1) (e := kE (.int 3)) (m := 3) (p := 0) (v := 0) rfl rfl rfl S (by decide) (by decide) (by decide)
  exact ⟨1 + x, ha, set_ev (op2_ev kE_ev C rfl) rfl, ld.sc, by omega, by omega⟩
theorem lap60 (k : Nat) {ns : List Int} {i gi li lap : Nat} {wide : Bool} {e4 e5 : E0} {h : List O} (S : Sc i gi li h) (hl : lap < 4) :
    ∃ (e4' e5' : E0) (h' : List O), B60_1 (callF fns (k + 6)) (S60 ns i wide (.w (iW lap)) e4 e5 h) = .nx (S60 ns i wide (.w (iW lap)) e4' e5' h') ∧ Sc i gi li h' := by
  obtain ⟨m, h1, L4, S1, m1, m2⟩ := k60_ev (k + 5) (ns := ns) (wide := wide) (e3 := .w (iW lap)) (e4 := e4) (e5 := e5) S
  obtain ⟨y, h2, C2, l2, y1, y2⟩ := cl_pick (k + 5) (s := S60 ns i wide (.w (iW lap)) (.w (zW m)) e5 h1) (e0 := vE 1) (e := kE (.int 4)) (m := 4) (p := 4) (v := 4) rfl rfl rfl S1 (by decide) (by decide) (by decide)
  obtain ⟨n, rfl⟩ := Int.eq_ofNat_of_zero_le y1
  have hN : op2 addV (kE (.int 2)) (callH (callF fns (k + 6)) 47 (asC (vE 1) (asC (kE (.int 4)) (asC (kE (.int 4)) (asN))))) (S60 ns i wide (.w (iW lap)) (.w (zW m)) e5 h1) = .ok (iR ((2 + n : Nat) : Int)) (S60 ns i wide (.w (iW lap)) (.w (zW m)) e5 h2) := by
    rw [show ((2 + n : Nat) : Int) = 2 + (n : Int) by omega]
    exact op2_ev kE_ev C2 rfl
  obtain ⟨ds, h3, D5, S3, len, s3⟩ := deeds60 (k + 4) (many := 2 + n) l2.sc hN (by omega) m1 m2
  have L5 := set_ev (i := 5) D5 (s2 := S60 ns i wide (.w (iW lap)) (.w (zW m)) (.w (.d (dsD ds))) h3) rfl
  obtain ⟨h4, A, S4⟩ := ask60 k (ns := ns) (i := i) (gi := gi) (li := li) (wide := wide) (e3 := .w (iW lap)) (e5 := .w (.d (dsD ds))) (h := h3) (ha := h3) (m := m) (v := 6) (long := 6) (DE := vE 5) (ME := op2 ixV (tupE (asC (kE (.int 1)) (asC (kE (.int 2)) (asC (kE (.int 3)) (asC (callH (callF fns (k + 6)) 47 (asC (vE 1) (asC (kE (.int 6)) (asC (kE (.int 4)) (asN))))) (asN)))))) (vE 3)) (ds := ds) rfl (vE_w rfl) S3 s3 (by omega) (by omega) (by decide) m1 m2 (fun hb Sb => by
    obtain ⟨z, hc, C, ld, z1, z2⟩ := cl_pick (k + 5) (s := S60 ns i wide (.w (iW lap)) (.w (zW m)) (.w (.d (dsD ds))) hb) (e0 := vE 1) (e := kE (.int 4)) (m := 4) (p := 6) (v := 6) rfl rfl rfl Sb (by decide) (by decide) (by decide)
    obtain ⟨z, rfl⟩ := Int.eq_ofNat_of_zero_le z1
    obtain ⟨c, hc3, ec⟩ : ∃ c : Nat, c ≤ 3 ∧ [D.int 1, .int 2, .int 3, .int (z : Nat)][lap]? = some (.int c) := by
      have : lap = 0 ∨ lap = 1 ∨ lap = 2 ∨ lap = 3 := by omega
      rcases this with rfl | rfl | rfl | rfl
      · exact ⟨1, by omega, rfl⟩
      · exact ⟨2, by omega, rfl⟩
      · exact ⟨3, by omega, rfl⟩
      · exact ⟨z, by omega, rfl⟩
    refine ⟨hc, c, ?_, ld.sc, cap_le (B := 6) (M := 3) (by omega) hc3 (by decide) (by decide), by omega⟩
    exact op2_ev (tupD_ev (ws := [zW 1, zW 2, zW 3, zW (z : Nat)]) (asC_ev kE_ev (asC_ev kE_ev (asC_ev kE_ev (asC_ev C asN_ev)))) rfl rfl (by show 4 ≤ 16777216; omega)) (vE_w rfl) (ixz_tup (by omega) (by rw [Int.toNat_natCast]; exact ec)))
  refine ⟨.w (zW m), .w (.d (dsD ds)), h4, ?_, S4⟩
  unfold B60_1
  exact seq_nx L4 (seq_nx L5 (if_f (notT_eq (k' := true) (tst_b A) rfl) rfl))
def I60 (ns : List Int) (i gi li : Nat) (wide : Bool) (s : Mn.S) : Prop := ∃ (e3 e4 e5 : E0) (h : List O), s = S60 ns i wide e3 e4 e5 h ∧ Sc i gi li h
def LawSays' : Prop := ∀ ns : List Int, ns.length ≤ 63 → ∃ h, callF fns 40 60 [.scr ns] [] = .ok (bR true) h
theorem law_ok : LawSays' := fun ns _ => by
  obtain ⟨great, leans, mixed, h, C7, h3, g1, g2, gl, ll⟩ := box_sp 38 ns
  obtain ⟨o0, o1, o2, rfl⟩ : ∃ o0 o1 o2, h = [o0, o1, o2] := by
    match h, h3 with
    | [a, b, c], _ => exact ⟨a, b, c, rfl⟩
  have S0 : Sc 3 1 2 ([o0, o1, o2] ++ [.lst [.ref 1, zW mixed, zW 7, .ref 2]]) := by
    refine ⟨great, mixed, 7, leans, ?_, ?_, ?_, by decide, by decide, by decide, ll, gl⟩
    · rfl
    · exact g1
    · exact g2
  obtain ⟨r, ha, Ca, la, r1, r2⟩ := ld_call 38 (p := 5) (v := 5) (m := 7) rfl S0 (by omega) (by omega) (by omega)
  obtain ⟨hz, CH⟩ := hand_ok
  obtain ⟨s', L, e3, e4, e5, hb, rfl, Sb⟩ := forL_inv (k := none) (g := tgV 3) (p := B60_1 (callF fns (33 + 6))) (I := fun _ => I60 ns 3 1 2 (decide (r = 2))) ((List.range 4).map iW) 0 (fun _ _ _ => rfl) (fun n s w hw ⟨e3, e4, e5, h, e, S⟩ => by
    subst e
    have hn := (List.getElem?_eq_some_iff.mp hw).1
    rw [List.length_map, List.length_range] at hn
    have ew : w = iW n := by
      rw [List.getElem?_map, List.getElem?_eq_getElem (by rw [List.length_range]; exact hn)] at hw
      simpa using hw.symm
    subst ew
    obtain ⟨e4', e5', h', T, S'⟩ := lap60 33 (ns := ns) (wide := decide (r = 2)) (lap := n) (e4 := e4) (e5 := e5) S hn
    exact ⟨_, _, rfl, T, .w (iW n), e4', e5', h', rfl, S'⟩) (s := S60 ns 3 (decide (r = 2)) .un .un .un ha) ⟨.un, .un, .un, ha, rfl, la.sc⟩
  have pre : ∀ {rest : Mn.St} {x : R} {st : Mn.S}, rest (S60 ns 3 (decide (r = 2)) e3 e4 e5 hb) = .rt x st → seqS (setS 1 (callE (callF fns 39) 46 (asC (vE 0) (asN)))) (seqS (setS 2 (op2 eqV (callH (callF fns 39) 47 (asC (vE 1) (asC (kE (.int 5)) (asC (kE (.int 7)) (asN))))) (kE (.int 2)))) (seqS (ifS (notT (tst (callH (callF fns 39) 59 asN))) (retS (kE (.bl false))) (nxS)) (seqS (forS (itR1 (kE (.int 4))) (tgV 3) (B60_1 (callF fns 39))) rest))) ⟨[.w (.scr ns), .un, .un, .un, .un, .un], []⟩ = .rt x st := fun hr => by
    have C7 : callF fns 39 46 [.scr ns] [] = .ok (.new (.lst [.ref 1, zW mixed, zW 7, .ref 2])) [o0, o1, o2] := C7
    have Ca : callF fns 39 47 [.ref 3, .d (.int 5), .d (.int 7)] ([o0, o1, o2] ++ [.lst [.ref 1, zW mixed, zW 7, .ref 2]]) = .ok (iR r) ha := Ca
    have L : forL none (tgV 3) (B60_1 (callF fns 39)) ((List.range 4).map iW) (S60 ns 3 (decide (r = 2)) .un .un .un ha) = .nx (S60 ns 3 (decide (r = 2)) e3 e4 e5 hb) := L
    generalize callF fns 39 = call at *
    apply seq_nx
    · array_get_dec
    apply seq_nx
    · apply set_ev
      · apply op2_ev
        · apply callH_ev
          · array_get_dec
          · exact rfl
          · apply callV_q
            · exact rfl
            · exact Ca
        · array_get_dec
        · array_mem_dec
      · exact rfl
    apply seq_nx
    · apply if_c
      · apply notT_eq
        · apply tst_b
          apply callH_ev
          · array_get_dec
          · exact rfl
          · apply callV_p
            · exact rfl
            · exact CH
            · exact rfl
        · exact rfl
      · right
        exact ⟨rfl, rfl⟩
    apply seq_nx
    · apply for_ev
      · apply itR1_z
        · array_get_dec
        · decide
        · decide
      · exact L
    · exact hr
  have fin : ∀ {x : R} {st : Mn.S}, x = bR true → B60 (callF fns 39) ⟨[.w (.scr ns), .un, .un, .un, .un, .un], []⟩ = .rt x st → ∃ h, callF fns 40 60 [.scr ns] [] = .ok (bR true) h := fun {x st} e B => by
    subst e
    exact ⟨st.h, call_ex (B := B60) (ρ := [.w (.scr ns), .un, .un, .un, .un, .un]) rfl rfl rfl ⟨bR true, st, B, rfl⟩⟩
  by_cases q : r = 2
  · rw [decide_eq_true q] at pre
    obtain ⟨m, h1, L4, S1, m1, m2⟩ := k60_ev 38 (ns := ns) (wide := true) (e3 := e3) (e4 := e4) (e5 := e5) Sb
    obtain ⟨ds, h2, D1, S2, len, s3⟩ := deeds60 37 (ns := ns) (wide := true) (e3 := e3) (e5 := e5) (h := h1) (many := 8) (N := kE (.int 8)) S1 rfl (by omega) m1 m2
    obtain ⟨h3, A1, S3⟩ := ask60 33 (ns := ns) (i := 3) (gi := 1) (li := 2) (wide := true) (e3 := e3) (e5 := e5) (m := m) (v := 4) (long := 4) (ME := kE (.int 4)) (ds := ds) rfl D1 S2 s3 (by omega) (by omega) (by decide) m1 m2 (fun hb Sb => ⟨hb, 4, rfl, Sb, cap_le (B := 9) (M := 4) (by omega) (by omega) (by decide) (by decide), by omega⟩)
    obtain ⟨ds', h4, D2, S4, len', s3'⟩ := deeds60 37 (ns := ns) (wide := true) (e3 := e3) (e5 := e5) (h := h3) (many := 2) (N := kE (.int 2)) S3 rfl (by omega) m1 m2
    obtain ⟨h5, A2, S5⟩ := ask60 33 (ns := ns) (i := 3) (gi := 1) (li := 2) (wide := true) (e3 := e3) (e5 := e5) (m := m) (v := 30) (long := 30) (ME := kE (.int 6)) (ds := ds') rfl D2 S4 s3' (by omega) (by omega) (by decide) m1 m2 (fun hb Sb => ⟨hb, 6, rfl, Sb, cap_le (B := 3) (M := 6) (by omega) (by omega) (by decide) (by decide), by omega⟩)
    refine fin (st := S60 ns 3 true e3 (.w (zW m)) e5 h5) rfl ?_
    unfold B60
    refine pre ?_
    exact seq_nx (s1 := S60 ns 3 true e3 e4 e5 hb) (if_f (notT_eq (k' := true) (tst_b rfl) rfl) rfl) (seq_nx L4 (seq_nx (if_f (notT_eq (k' := true) (tst_b A1) rfl) rfl) (ret_ev A2)))
  · rw [decide_eq_false q] at pre
    refine fin (st := S60 ns 3 false e3 e4 e5 hb) rfl ?_
    unfold B60
    refine pre ?_
    exact seq_rt (if_t (notT_eq (k' := false) (tst_b rfl) rfl) rfl)
end HeadT

section
set_option Elab.async false
set_option linter.all false
set_option maxRecDepth 100000
/-! MnSim: when a state of the small semantics stands for the layer's slots and heap. -/
namespace Mn
open PySem PySem.Spec PyProof.Rows L2

/-- the written part, the classes' addresses, the fields' names -/
structure Pr where
  ca : Nat → Addr
  fn : Nat → PySem.Str

abbrev sig (s : List Nat) : PySem.Str := ⟨s.toArray⟩
mutual
inductive RepD (K : PySem.W.Frag) (H : Hp) : D → V → Prop
  | non : RepD K H .non .non
  | bl (b : Bool) : RepD K H (.bl b) (.bl b)
  | int (i : Int) : RepD K H (.int i) (.int i)
  | str (s : List Nat) : (∀ c ∈ s, c < 0x110000) → RepD K H (.str s) (.str (sig s))
  | tup {a : Addr} {vs : List V} {ds : List D} : SqT K H a vs → RepDs K H ds vs → RepD K H (.tup ds) (.ref a)
inductive RepDs (K : PySem.W.Frag) (H : Hp) : List D → List V → Prop
  | nil : RepDs K H [] []
  | cons {d : D} {v : V} {ds : List D} {vs : List V} : RepD K H d v → RepDs K H ds vs → RepDs K H (d :: ds) (v :: vs)
end
/-- a list that stays as it is -/
def FzL (K : PySem.W.Frag) (H : Hp) (a : Addr) (xs : List V) : Prop := (∃ o, H a = some (.frz o (.lst xs))) ∨
  ∃ (o : Obj) (its : Array Value) (n : Nat), K.lookup a = some o ∧ o.cls = .type "list" ∧ o.dict = none ∧ o.data = .seq its n ∧ its.size ≤ sizeLine ∧ Vals xs its.toList
theorem FzL.sq {K : PySem.W.Frag} {H : Hp} {a : Addr} {xs : List V} (h : FzL K H a xs) : SqL K H a xs := h.elim (fun h => .inl (.inr h)) .inr
mutual
inductive SimW (K : PySem.W.Frag) (μ : List Addr) (H : Hp) : W → V → Prop
  | d {x : D} {v : V} : RepD K H x v → SimW K μ H (.d x) v
  | ref {i : Nat} {a : Addr} : μ[i]? = some a → SimW K μ H (.ref i) (.ref a)
  | tup {a : Addr} {vs : List V} {ws : List W} : SqT K H a vs → SimWs K μ H ws vs → SimW K μ H (.tup ws) (.ref a)
  | scr {a : Addr} {ns : List Int} : FzL K H a (ns.map V.int) → SimW K μ H (.scr ns) (.ref a)
inductive SimWs (K : PySem.W.Frag) (μ : List Addr) (H : Hp) : List W → List V → Prop
  | nil : SimWs K μ H [] []
  | cons {w : W} {v : V} {ws : List W} {vs : List V} : SimW K μ H w v → SimWs K μ H ws vs → SimWs K μ H (w :: ws) (v :: vs)
end
def keyD : D → Option Key
  | .int i => some (.inl i)
  | .str s => some (.inr (sig s))
  | _ => none
def SimF (P : Pr) (K : PySem.W.Frag) (μ : List Addr) (H : Hp) : List (Nat × W) → List (PySem.Str × V) → Prop :=
  Paired fun p q => P.fn p.1 = q.1 ∧ SimW K μ H p.2 q.2
def SimK (K : PySem.W.Frag) (μ : List Addr) (H : Hp) : List (D × W) → List (Key × V) → Prop :=
  Paired fun p q => keyD p.1 = some q.1 ∧ SimW K μ H p.2 q.2 ∧ RepD K H p.1 (kV q.1)
def SimO (P : Pr) (K : PySem.W.Frag) (μ : List Addr) (H : Hp) : O → Addr → Prop
  | .lst ws, a => ∃ vs, H a = some (.lst vs) ∧ SimWs K μ H ws vs
  | .dct false kvs, a => ∃ kvs', H a = some (.dK kvs') ∧ SimK K μ H kvs kvs'
  | .dct true kvs, a => ∃ kvs' o, H a = some (.frz o (.dK kvs')) ∧ SimK K μ H kvs kvs'
  | .ins c fs, a => ∃ dx fs', H a = some (.ins (P.ca c) dx fs') ∧ H dx = some (.own a) ∧ SimF P K μ H fs fs'
def SimE (P : Pr) (K : PySem.W.Frag) (μ : List Addr) (H : Hp) : E0 → Option V → Prop
  | .un, _ => True
  | .w x, some v => SimW K μ H x v
  | .own o, some (.ref a) => SimO P K μ H o a
  | _, _ => False
/-- slot i owns what stands at a -/
def Owns (s : S) (σ : L2.St) (i : Nat) (a : Addr) : Prop := (∃ o, s.ρ[i]? = some (.own o)) ∧ σ[i]? = some (some (V.ref a))
def E0.obj : E0 → Bool
  | .own _ => true
  | .w (.ref _) => true
  | _ => false
structure Sim (P : Pr) (K : PySem.W.Frag) (μ : List Addr) (s : S) (σ : L2.St) (H : Hp) : Prop where
  heap : Paired (SimO P K μ H) s.h μ
  env : Paired (SimE P K μ H) s.ρ σ
  nd : μ.Nodup
  apart : ∀ i a, Owns s σ i a → a ∉ μ
  inj : ∀ i j a, Owns s σ i a → Owns s σ j a → i = j
/-- the footprint -/
def foot (μ : List Addr) (s : S) (σ : L2.St) (a : Addr) : Prop := a ∈ μ ∨ ∃ i, Owns s σ i a
structure Step (M : Addr → Prop) (H : Hp) (M' : Addr → Prop) (H' : Hp) : Prop where
  keep : ∀ a o, H a = some o → ¬ M a → H' a = some o
  new : ∀ a, M' a → M a ∨ H a = none
  live : ∀ a, H' a = none → H a = none
  frz : ∀ a o u, H a = some (.frz o u) → H' a = some (.frz o u)
structure Aft (P : Pr) (K : PySem.W.Frag) (μ : List Addr) (s : S) (σ : L2.St) (H : Hp) (μ' : List Addr) (s' : S) (H' : Hp) : Prop where
  sim : Sim P K μ' s' σ H'
  pre : μ <+: μ'
  step : Step (foot μ s σ) H (foot μ' s' σ) H'
  sl : ∀ (i : Nat) e, s.ρ[i]? = some e → e.obj = true → ∃ e', s'.ρ[i]? = some e' ∧ e'.obj = true
/-- .. behind a statement: the slots may be others -/
structure AftS (P : Pr) (K : PySem.W.Frag) (μ : List Addr) (s : S) (σ : L2.St) (H : Hp) (μ' : List Addr) (s' : S) (σ' : L2.St) (H' : Hp) : Prop where
  sim : Sim P K μ' s' σ' H'
  pre : μ <+: μ'
  step : Step (foot μ s σ) H (foot μ' s' σ') H'

/-! ### keeping -/
theorem Step.refl {M : Addr → Prop} {H : Hp} : Step M H M H := ⟨fun _ _ e _ => e, fun _ h => .inl h, fun _ e => e, fun _ _ _ e => e⟩
theorem Step.trans {M M1 M2 : Addr → Prop} {H H1 H2 : Hp} (a : Step M H M1 H1) (b : Step M1 H1 M2 H2) : Step M H M2 H2 where
  keep := fun x o e h => b.keep x o (a.keep x o e h) fun h1 => by
    rcases a.new x h1 with z | z
    · exact h z
    · rw [e] at z; cases z
  new := fun x h => by
    rcases b.new x h with z | z
    · exact a.new x z
    · exact .inr (a.live x z)
  live := fun x e => a.live x (b.live x e)
  frz := fun x o u e => b.frz x o u (a.frz x o u e)
/-- tuples stay -/
structure Tups (K : PySem.W.Frag) (H H' : Hp) : Prop where
  tup : ∀ a xs, SqT K H a xs → SqT K H' a xs
  fz : ∀ a xs, FzL K H a xs → FzL K H' a xs
theorem Tups.refl {K : PySem.W.Frag} {H : Hp} : Tups K H H := ⟨fun _ _ h => h, fun _ _ h => h⟩
theorem Tups.trans {K : PySem.W.Frag} {H H1 H2 : Hp} (a : Tups K H H1) (b : Tups K H1 H2) : Tups K H H2 := ⟨fun x xs h => b.tup x xs (a.tup x xs h), fun x xs h => b.fz x xs (a.fz x xs h)⟩
theorem tups_of {K : PySem.W.Frag} {H H' : Hp} (h : ∀ a xs, Rd H a (.tup xs) → Rd H' a (.tup xs)) (hf : ∀ a o xs, H a = some (.frz o (.lst xs)) → H' a = some (.frz o (.lst xs))) : Tups K H H' := ⟨fun a xs q => q.imp (h a xs) id, fun a xs q => q.imp (fun ⟨o, e⟩ => ⟨o, hf a o xs e⟩) id⟩
section
variable {P : Pr} {K : PySem.W.Frag} {μ μ' : List Addr} {H H' : Hp}
mutual
theorem RepD.mono (t : Tups K H H') : ∀ {d : D} {v : V}, RepD K H d v → RepD K H' d v
  | _, _, .non => .non
  | _, _, .bl b => .bl b
  | _, _, .int i => .int i
  | _, _, .str s h => .str s h
  | _, _, .tup h r => .tup (t.tup _ _ h) (RepDs.mono t r)
theorem RepDs.mono (t : Tups K H H') : ∀ {d : List D} {v : List V}, RepDs K H d v → RepDs K H' d v
  | _, _, .nil => .nil
  | _, _, .cons h r => .cons (RepD.mono t h) (RepDs.mono t r)
end
theorem pre_get {α : Type} {l l' : List α} {i : Nat} {a : α} (h : l <+: l') (e : l[i]? = some a) : l'[i]? = some a := by
  obtain ⟨r, rfl⟩ := h
  have hi : i < l.length := (List.getElem?_eq_some_iff.mp e).1
  rw [List.getElem?_append_left hi]
  exact e
mutual
theorem SimW.mono (t : Tups K H H') (p : μ <+: μ') : ∀ {w : W} {v : V}, SimW K μ H w v → SimW K μ' H' w v
  | _, _, .d h => .d (h.mono t)
  | _, _, .ref e => .ref (pre_get p e)
  | _, _, .tup h r => .tup (t.tup _ _ h) (SimWs.mono t p r)
  | _, _, .scr h => .scr (t.fz _ _ h)
theorem SimWs.mono (t : Tups K H H') (p : μ <+: μ') : ∀ {w : List W} {v : List V}, SimWs K μ H w v → SimWs K μ' H' w v
  | _, _, .nil => .nil
  | _, _, .cons h r => .cons (SimW.mono t p h) (SimWs.mono t p r)
end
theorem SimF.mono (t : Tups K H H') (p : μ <+: μ') {fs : List (Nat × W)} {gs : List (PySem.Str × V)} (h : SimF P K μ H fs gs) : SimF P K μ' H' fs gs := Paired.mapP h fun _ _ q => ⟨q.1, q.2.mono t p⟩
theorem SimK.mono (t : Tups K H H') (p : μ <+: μ') {fs : List (D × W)} {gs : List (Key × V)} (h : SimK K μ H fs gs) : SimK K μ' H' fs gs := Paired.mapP h fun _ _ q => ⟨q.1, q.2.1.mono t p, q.2.2.mono t⟩
/-- an object whose own place stays -/
theorem SimO.mono (t : Tups K H H') (p : μ <+: μ') {o : O} {a : Addr} (e : H' a = H a) (ed : ∀ dx, H dx = some (.own a) → H' dx = some (.own a)) (h : SimO P K μ H o a) : SimO P K μ' H' o a := by
  cases o with
  | lst ws => obtain ⟨vs, e1, r⟩ := h; exact ⟨vs, e.trans e1, r.mono t p⟩
  | dct fz kvs =>
    cases fz with
    | false => obtain ⟨vs, e1, r⟩ := h; exact ⟨vs, e.trans e1, r.mono t p⟩
    | true => obtain ⟨vs, o, e1, r⟩ := h; exact ⟨vs, o, e.trans e1, r.mono t p⟩
  | ins c fs => obtain ⟨dx, vs, e1, e2, r⟩ := h; exact ⟨dx, vs, e.trans e1, ed _ e2, r.mono t p⟩
/-- what stands at a tracked thing's place is no tuple, no own dict -/
theorem SimO.notup {o : O} {a : Addr} (h : SimO P K μ H o a) : (∀ xs, ¬ Rd H a (.tup xs)) ∧ (∀ x, H a ≠ some (.own x)) ∧ H a ≠ none := by
  have key : ∀ u : HO, H a = some u → (∀ xs, u ≠ .tup xs) → (∀ o xs, u ≠ .frz o (.tup xs)) → (∀ x, u ≠ .own x) → (∀ xs, ¬ Rd H a (.tup xs)) ∧ (∀ x, H a ≠ some (.own x)) ∧ H a ≠ none := fun u e h1 h2 h3 => by
    refine ⟨fun xs q => ?_, fun x q => ?_, fun q => ?_⟩
    · rcases q with q | ⟨o, q⟩
      · rw [e] at q; cases q; exact h1 _ rfl
      · rw [e] at q; cases q; exact h2 _ _ rfl
    · rw [e] at q; cases q; exact h3 _ rfl
    · rw [e] at q; cases q
  cases o with
  | lst ws => obtain ⟨vs, e1, r⟩ := h; exact key _ e1 (fun _ z => nomatch z) (fun _ _ z => nomatch z) (fun _ z => nomatch z)
  | dct fz kvs =>
    cases fz with
    | false => obtain ⟨vs, e1, r⟩ := h; exact key _ e1 (fun _ z => nomatch z) (fun _ _ z => nomatch z) (fun _ z => nomatch z)
    | true => obtain ⟨vs, o, e1, r⟩ := h; exact key _ e1 (fun _ z => nomatch z) (fun _ _ z => by injection z with _ z; cases z) (fun _ z => nomatch z)
  | ins c fs => obtain ⟨dx, vs, e1, e2, r⟩ := h; exact key _ e1 (fun _ z => nomatch z) (fun _ _ z => nomatch z) (fun _ z => nomatch z)
end
section
variable {P : Pr} {K : PySem.W.Frag} {μ μ' : List Addr} {s s' : S} {σ : L2.St} {H H' : Hp}
theorem paired_get {α β : Type} {F : α → β → Prop} : ∀ {xs : List α} {ys : List β} {i : Nat} {x : α}, Paired F xs ys → xs[i]? = some x → ∃ y, ys[i]? = some y ∧ F x y
  | _, _, _, _, .nil, e => by simp at e
  | _, _, 0, _, .cons h _, e => by simp at e; subst e; exact ⟨_, rfl, h⟩
  | _, _, i + 1, _, .cons _ r, e => by
    obtain ⟨y, e1, h⟩ := paired_get (i := i) r (by simpa using e)
    exact ⟨y, by simpa using e1, h⟩
theorem paired_getR {α β : Type} {F : α → β → Prop} : ∀ {xs : List α} {ys : List β} {i : Nat} {y : β}, Paired F xs ys → ys[i]? = some y → ∃ x, xs[i]? = some x ∧ F x y
  | _, _, _, _, .nil, e => by simp at e
  | _, _, 0, _, .cons h _, e => by simp at e; subst e; exact ⟨_, rfl, h⟩
  | _, _, i + 1, _, .cons _ r, e => by
    obtain ⟨y, e1, h⟩ := paired_getR (i := i) r (by simpa using e)
    exact ⟨y, by simpa using e1, h⟩
theorem nodup_ixA {l : List Addr} (hN : l.Nodup) {i j : Nat} {x : Addr} (a : l[i]? = some x) (b : l[j]? = some x) : i = j := by
  obtain ⟨h1, e1⟩ := List.getElem?_eq_some_iff.mp a
  obtain ⟨h2, e2⟩ := List.getElem?_eq_some_iff.mp b
  exact (List.getElem_inj hN).mp (e1.trans e2.symm)
theorem paired_set {α β : Type} {F : α → β → Prop} {x : α} {y : β} (h : F x y) : ∀ {xs : List α} {ys : List β} (i : Nat), Paired F xs ys → Paired F (xs.set i x) (ys.set i y)
  | _, _, _, .nil => .nil
  | _, _, 0, .cons _ r => .cons h r
  | _, _, i + 1, .cons q r => .cons q (paired_set h i r)
/-- each address of the footprint holds a tracked object -/
theorem Sim.at_foot (I : Sim P K μ s σ H) {a : Addr} (h : foot μ s σ a) : ∃ o, SimO P K μ H o a := by
  rcases h with h | ⟨i, ⟨o, h1⟩, h2⟩
  · obtain ⟨i, hi⟩ := List.getElem?_of_mem h
    obtain ⟨o, _, q⟩ := paired_getR I.heap hi
    exact ⟨o, q⟩
  · obtain ⟨v, e, q⟩ := paired_get I.env h1
    rw [h2] at e
    cases e
    exact ⟨o, q⟩
theorem Sim.notup (I : Sim P K μ s σ H) {a : Addr} (h : foot μ s σ a) : (∀ xs, ¬ Rd H a (.tup xs)) ∧ (∀ x, H a ≠ some (.own x)) ∧ H a ≠ none := let ⟨_, q⟩ := I.at_foot h; q.notup
theorem SimO.nofl {o : O} {a : Addr} (h : SimO P K μ H o a) (f : Obj) (xs : List V) : H a ≠ some (.frz f (.lst xs)) := by
  intro z
  cases o with
  | lst ws => obtain ⟨vs, e1, _⟩ := h; rw [z] at e1; cases e1
  | dct fz kvs =>
    cases fz with
    | false => obtain ⟨vs, e1, _⟩ := h; rw [z] at e1; cases e1
    | true => obtain ⟨vs, o, e1, _⟩ := h; rw [z] at e1; injection e1 with e1; injection e1 with _ e1; cases e1
  | ins c fs => obtain ⟨dx, vs, e1, _⟩ := h; rw [z] at e1; cases e1
theorem Sim.nofl (I : Sim P K μ s σ H) {a : Addr} (h : foot μ s σ a) (f : Obj) (xs : List V) : H a ≠ some (.frz f (.lst xs)) := let ⟨_, q⟩ := I.at_foot h; q.nofl f xs
theorem Sim.tups (I : Sim P K μ s σ H) {M : Addr → Prop} (st : Step (foot μ s σ) H M H') : Tups K H H' := tups_of (fun a xs h => by
  have hn : ¬ foot μ s σ a := fun z => (I.notup z).1 xs h
  rcases h with h | ⟨o, h⟩
  · exact .inl (st.keep a _ h hn)
  · exact .inr ⟨o, st.keep a _ h hn⟩) fun a o xs e => st.frz a o _ e
theorem Aft.refl (I : Sim P K μ s σ H) : Aft P K μ s σ H μ s H := ⟨I, List.prefix_refl _, .refl, fun _ e h1 h2 => ⟨e, h1, h2⟩⟩
theorem Aft.trans {μ2 : List Addr} {s2 : S} {H2 : Hp} (a : Aft P K μ s σ H μ' s' H') (b : Aft P K μ' s' σ H' μ2 s2 H2) : Aft P K μ s σ H μ2 s2 H2 :=
  ⟨b.sim, a.pre.trans b.pre, a.step.trans b.step, fun i e h1 h2 => let ⟨e1, h3, h4⟩ := a.sl i e h1 h2; b.sl i e1 h3 h4⟩
theorem Aft.toS (a : Aft P K μ s σ H μ' s' H') : AftS P K μ s σ H μ' s' σ H' := ⟨a.sim, a.pre, a.step⟩
theorem AftS.trans {μ2 : List Addr} {s2 : S} {σ1 σ2 : L2.St} {H2 : Hp} (a : AftS P K μ s σ H μ' s' σ1 H') (b : AftS P K μ' s' σ1 H' μ2 s2 σ2 H2) : AftS P K μ s σ H μ2 s2 σ2 H2 :=
  ⟨b.sim, a.pre.trans b.pre, a.step.trans b.step⟩
theorem Aft.tups (I : Sim P K μ s σ H) (a : Aft P K μ s σ H μ' s' H') : Tups K H H' := I.tups a.step

/-! ### the same state over another heap -/
theorem Sim.over (I : Sim P K μ s σ H) (e : ∀ a, foot μ s σ a → H' a = H a) (t : Tups K H H') (ed : ∀ dx a, H dx = some (.own a) → H' dx = some (.own a)) : Sim P K μ s σ H' := by
  refine ⟨?_, ?_, I.nd, I.apart, I.inj⟩
  · have key : ∀ (hs : List O) (l : List Addr), Paired (SimO P K μ H) hs l → (∀ a ∈ l, a ∈ μ) → Paired (SimO P K μ H') hs l := by
      intro hs l h
      induction h with
      | nil => intro _; exact .nil
      | cons q r ih => intro m; exact .cons (q.mono t (List.prefix_refl _) (e _ (.inl (m _ List.mem_cons_self))) (fun dx z => ed dx _ z)) (ih fun a z => m a (List.mem_cons_of_mem _ z))
    exact key _ _ I.heap fun _ z => z
  · have key : ∀ (es : List E0) (l : L2.St), Paired (SimE P K μ H) es l → (∀ (i : Nat) o a, es[i]? = some (E0.own o) → l[i]? = some (some (V.ref a)) → foot μ s σ a) → Paired (SimE P K μ H') es l := by
      intro es l h
      induction h with
      | nil => intro _; exact .nil
      | @cons x v es l q r ih =>
        intro m
        refine .cons ?_ (ih fun i o a h1 h2 => m (i + 1) o a (by simpa using h1) (by simpa using h2))
        cases x with
        | un => trivial
        | w x => cases v with
          | none => exact q
          | some v => exact SimW.mono t (List.prefix_refl _) q
        | own o => cases v with
          | none => exact q
          | some v => cases v <;> first | exact q | skip
                      rename_i a
                      exact SimO.mono t (List.prefix_refl _) (e _ (m 0 o a rfl rfl)) (fun dx z => ed dx _ z) q
    exact key _ _ I.env fun i o a h1 h2 => .inr ⟨i, ⟨o, h1⟩, h2⟩
/-- a new object is laid -/
theorem Sim.alloc {p : Addr} {o : HO} (I : Sim P K μ s σ H) (hp : H p = none) : Aft P K μ s σ H μ s (upd H p o) := by
  have ne : ∀ a u, H a = some u → upd H p o a = some u := fun a u e => by rw [upd_ne (ne_of_none e hp)]; exact e
  have nf : ∀ a, foot μ s σ a → upd H p o a = H a := fun a h => by
    rw [upd_ne]
    intro z
    subst z
    exact (I.notup h).2.2 hp
  refine ⟨I.over nf (tups_of (fun a xs q => ?_) fun a o xs e => ne _ _ e) (fun dx a e => ne _ _ e), List.prefix_refl _, ⟨fun a u e _ => ne a u e, fun a h => .inl h, fun a e => ?_, fun a f u e => ne a _ e⟩, fun _ e h1 h2 => ⟨e, h1, h2⟩⟩
  · rcases q with q | ⟨u, q⟩
    · exact .inl (ne _ _ q)
    · exact .inr ⟨u, ne _ _ q⟩
  · cases q : H a with
    | none => rfl
    | some u => rw [ne a u q] at e; cases e

/-! ### places -/
def AtS (μ : List Addr) (s : S) (σ : L2.St) (x : Src) (a : Addr) : Prop := match x with
  | .hp j => μ[j]? = some a
  | .sl i => Owns s σ i a
theorem AtS.foot {x : Src} {a : Addr} (h : AtS μ s σ x a) : foot μ s σ a := by
  cases x with
  | hp j => exact .inl (List.mem_of_getElem? h)
  | sl i => exact .inr ⟨i, h⟩
theorem Sim.getOk (I : Sim P K μ s σ H) {x : Src} {o : O} (h : getO s x = some o) : ∃ a, AtS μ s σ x a ∧ SimO P K μ H o a := by
  cases x with
  | hp j =>
    obtain ⟨a, e, q⟩ := paired_get I.heap (show s.h[j]? = some o from h)
    exact ⟨a, e, q⟩
  | sl i =>
    have h1 : s.ρ[i]? = some (.own o) := by
      have h : (match s.ρ[i]? with | some (.own o) => some o | _ => none) = some o := h
      cases e : s.ρ[i]? with
      | none => rw [e] at h; cases h
      | some x => rw [e] at h; cases x <;> first | (cases h; done) | skip
                  cases h; rfl
    obtain ⟨v, e, q⟩ := paired_get I.env h1
    cases v with
    | none => exact q.elim
    | some v =>
      cases v <;> first | exact q.elim | skip
      exact ⟨_, ⟨⟨o, h1⟩, e⟩, q⟩
theorem Sim.at_inj (I : Sim P K μ s σ H) {x : Src} {a b : Addr} (h : AtS μ s σ x a) (h' : AtS μ s σ x b) : a = b := by
  cases x with
  | hp j => exact Option.some.inj ((show μ[j]? = some a from h).symm.trans h')
  | sl i =>
    have q := (show σ[i]? = some (some (V.ref a)) from h.2).symm.trans h'.2
    cases q
    rfl
theorem owns_set {i : Nat} {o o' : O} (e : s.ρ[i]? = some (.own o)) {j : Nat} {a : Addr} : Owns ⟨s.ρ.set i (.own o'), s.h⟩ σ j a ↔ Owns s σ j a := by
  have hi : i < s.ρ.length := (List.getElem?_eq_some_iff.mp e).1
  by_cases hj : i = j
  · subst hj
    constructor
    · rintro ⟨_, q⟩; exact ⟨⟨o, e⟩, q⟩
    · rintro ⟨_, q⟩; exact ⟨⟨o', by simp [hi]⟩, q⟩
  · constructor
    · rintro ⟨⟨u, q1⟩, q⟩; exact ⟨⟨u, by simpa [List.getElem?_set_ne hj] using q1⟩, q⟩
    · rintro ⟨⟨u, q1⟩, q⟩; exact ⟨⟨u, by simpa [List.getElem?_set_ne hj] using q1⟩, q⟩
theorem paired_setL {α β : Type} {F : α → β → Prop} {x : α} {y : β} (h : F x y) : ∀ {xs : List α} {ys : List β} (i : Nat), Paired F xs ys → ys[i]? = some y → Paired F (xs.set i x) ys
  | _, _, _, .nil, _ => .nil
  | _, _, 0, .cons _ r, e => by simp at e; subst e; exact .cons h r
  | _, _, i + 1, .cons q r, e => .cons q (paired_setL h i r (by simpa using e))
/-- an object is written: all else stands -/
theorem Sim.writeA {x : Src} {o o' : O} {a : Addr} {u : HO} (I : Sim P K μ s σ H) (h : Mn.getO s x = some o) (ha : AtS μ s σ x a) (new : SimO P K μ (upd H a u) o' a) : Sim P K μ (setO s x o') σ (upd H a u) ∧ (∀ b, foot μ (setO s x o') σ b → foot μ s σ b) ∧ (∀ (i : Nat) e, s.ρ[i]? = some e → e.obj = true → ∃ e', (setO s x o').ρ[i]? = some e' ∧ e'.obj = true) := by
  have fa := ha.foot
  obtain ⟨n1, n2, n3⟩ := I.notup fa
  have oth : ∀ b w, H b = some w → b ≠ a → upd H a u b = some w := fun b w e hb => by rw [upd_ne hb]; exact e
  have tu : Tups K H (upd H a u) := tups_of (fun b xs q => by
    have hb : b ≠ a := fun z => by subst z; exact n1 xs q
    rcases q with q | ⟨w, q⟩
    · exact .inl (oth b _ q hb)
    · exact .inr ⟨w, oth b _ q hb⟩) fun b o xs e => oth b _ e fun z => by subst z; exact I.nofl fa o xs e
  have ow : ∀ dx b, H dx = some (.own b) → upd H a u dx = some (.own b) := fun dx b e => oth dx _ e fun z => by subst z; exact n2 _ e
  have moO : ∀ {b : Addr} {w : O}, SimO P K μ H w b → b ≠ a → SimO P K μ (upd H a u) w b := fun q hb => q.mono tu (List.prefix_refl _) (upd_ne hb) fun dx z => ow dx _ z
  cases x with
  | hp j =>
    have ha' : μ[j]? = some a := ha
    have apA : ∀ i b, Owns s σ i b → b ≠ a := fun i b q z => by subst z; exact I.apart i b q (List.mem_of_getElem? ha')
    refine ⟨⟨?_, ?_, I.nd, I.apart, I.inj⟩, fun _ h => h, fun _ e h1 h2 => ⟨e, h1, h2⟩⟩
    · -- the heap
      have key : ∀ (hs : List O) (l : List Addr) (n : Nat), Paired (SimO P K μ H) hs l → (∀ (i : Nat) (b : Addr), l[i]? = some b → (b = a ↔ i = n)) → Paired (SimO P K μ (upd H a u)) (hs.set n o') l := by
        intro hs l n q
        induction q generalizing n with
        | nil => intro _; exact .nil
        | @cons w b hs l q r ih =>
          intro m
          cases n with
          | zero =>
            have e : b = a := (m 0 b rfl).mpr rfl
            subst e
            refine .cons new ?_
            have := ih hs.length fun i c hc => by
              have q := m (i + 1) c (by simpa using hc)
              constructor
              · intro z; exact absurd (q.mp z) (by omega)
              · intro z
                have := r.length
                have hi : i < l.length := (List.getElem?_eq_some_iff.mp hc).1
                omega
            rw [List.set_eq_of_length_le (by omega)] at this
            exact this
          | succ n =>
            refine .cons (moO q fun z => absurd ((m 0 b rfl).mp z) (by omega)) (ih n fun i c hc => ?_)
            have q := m (i + 1) c (by simpa using hc)
            constructor
            · intro z; have := q.mp z; omega
            · intro z; exact q.mpr (by omega)
      refine key _ _ j I.heap fun i b hb => ⟨fun z => ?_, fun z => ?_⟩
      · subst z; exact nodup_ixA I.nd hb ha'
      · subst z; exact Option.some.inj (hb.symm.trans ha')
    · have key : ∀ (es : List E0) (l : L2.St), Paired (SimE P K μ H) es l → (∀ (i : Nat) w b, es[i]? = some (E0.own w) → l[i]? = some (some (V.ref b)) → b ≠ a) → Paired (SimE P K μ (upd H a u)) es l := by
        intro es l q
        induction q with
        | nil => intro _; exact .nil
        | @cons e v es l q r ih =>
          intro m
          refine .cons ?_ (ih fun i o a h1 h2 => m (i + 1) o a (by simpa using h1) (by simpa using h2))
          cases e with
          | un => trivial
          | w x => cases v with
            | none => exact q
            | some v => exact SimW.mono tu (List.prefix_refl _) q
          | own o => cases v with
            | none => exact q
            | some v => cases v <;> first | exact q | skip
                        exact moO q (m 0 o _ rfl rfl)
      exact key _ _ I.env fun i w b h1 h2 => apA i b ⟨⟨w, h1⟩, h2⟩
  | sl i =>
    obtain ⟨⟨o1, h1⟩, h2⟩ := ha
    have naM : a ∉ μ := I.apart i a ⟨⟨o1, h1⟩, h2⟩
    have eq : ∀ j b, Owns (setO s (.sl i) o') σ j b ↔ Owns s σ j b := fun j b => owns_set h1
    have ft : foot μ (setO s (.sl i) o') σ = foot μ s σ := by
      funext b
      unfold foot
      exact propext (or_congr Iff.rfl (exists_congr fun j => eq j b))
    refine ⟨⟨?_, ?_, I.nd, fun j b q => I.apart j b ((eq j b).mp q), fun j k b p q => I.inj j k b ((eq j b).mp p) ((eq k b).mp q)⟩, fun b h => by rw [ft] at h; exact h, fun j e e1 e2 => ?_⟩
    rotate_left 2
    · by_cases hj : i = j
      · subst hj
        exact ⟨.own o', by show (s.ρ.set i (.own o'))[i]? = _; simp [(List.getElem?_eq_some_iff.mp h1).1], rfl⟩
      · exact ⟨e, by show (s.ρ.set i (.own o'))[j]? = _; rw [List.getElem?_set_ne hj]; exact e1, e2⟩
    · have key : ∀ (hs : List O) (l : List Addr), Paired (SimO P K μ H) hs l → (∀ b ∈ l, b ≠ a) → Paired (SimO P K μ (upd H a u)) hs l := by
        intro hs l q
        induction q with
        | nil => intro _; exact .nil
        | cons q r ih => intro m; exact .cons (moO q (m _ List.mem_cons_self)) (ih fun b z => m b (List.mem_cons_of_mem _ z))
      exact key _ _ I.heap fun b hb z => by subst z; exact naM hb
    · have key : ∀ (es : List E0) (l : L2.St) (n : Nat), Paired (SimE P K μ H) es l → (∀ (j : Nat) w b, es[j]? = some (E0.own w) → l[j]? = some (some (V.ref b)) → b = a → j = n) → (∀ v, l[n]? = some v → v = some (.ref a)) → Paired (SimE P K μ (upd H a u)) (es.set n (.own o')) l := by
        intro es l n q
        induction q generalizing n with
        | nil => intro _ _; exact .nil
        | @cons e v es l q r ih =>
          intro m mv
          have stay : (∀ w b, e = .own w → v = some (.ref b) → b ≠ a) → SimE P K μ (upd H a u) e v := fun hne => by
            cases e with
            | un => trivial
            | w x => cases v with
              | none => exact q
              | some v => exact SimW.mono tu (List.prefix_refl _) q
            | own o => cases v with
              | none => exact q
              | some v => cases v <;> first | exact q | skip
                          exact moO q (hne o _ rfl rfl)
          cases n with
          | zero =>
            have e2 := mv v rfl
            subst e2
            refine .cons new ?_
            have := ih es.length (fun j w b h1 h2 z => absurd (m (j + 1) w b (by simpa using h1) (by simpa using h2) z) (by omega)) (fun v hv => by
              have := r.length
              have hi := (List.getElem?_eq_some_iff.mp hv).1
              omega)
            rw [List.set_eq_of_length_le (by omega)] at this
            exact this
          | succ n =>
            refine .cons (stay fun w b e1 e2 z => ?_) (ih n (fun j w b h1 h2 z => ?_) fun v hv => mv v (by simpa using hv))
            · subst e1 e2
              exact absurd (m 0 w b rfl rfl z) (by omega)
            · have := m (j + 1) w b (by simpa using h1) (by simpa using h2) z
              omega
      exact key _ _ i I.env (fun j w b q1 q2 z => by subst z; exact I.inj j i b ⟨⟨w, q1⟩, q2⟩ ⟨⟨o1, h1⟩, h2⟩) fun v hv => Option.some.inj (hv.symm.trans h2)

/-- an object that is not frozen -/
theorem SimO.nofrz {o : O} {a : Addr} (h : SimO P K μ H o a) (ho : ∀ kvs, o ≠ .dct true kvs) (f : Obj) (u : HO) : H a ≠ some (.frz f u) := by
  intro z
  cases o with
  | lst ws => obtain ⟨vs, e1, _⟩ := h; rw [z] at e1; cases e1
  | dct fz kvs =>
    cases fz with
    | false => obtain ⟨vs, e1, _⟩ := h; rw [z] at e1; cases e1
    | true => exact ho kvs rfl
  | ins c fs => obtain ⟨dx, vs, e1, _⟩ := h; rw [z] at e1; cases e1
theorem Sim.write {x : Src} {o o' : O} {a : Addr} {u : HO} (I : Sim P K μ s σ H) (h : Mn.getO s x = some o) (ho : ∀ kvs, o ≠ .dct true kvs) (ha : AtS μ s σ x a) (new : SimO P K μ (upd H a u) o' a) : Aft P K μ s σ H μ (setO s x o') (upd H a u) := by
  obtain ⟨h1, h2, h3⟩ := I.writeA h ha new
  have fa := ha.foot
  refine ⟨h1, List.prefix_refl _, ⟨fun b w e hb => ?_, fun b hb => .inl (h2 b hb), fun b e => ?_, fun b f w e => ?_⟩, h3⟩
  · rw [upd_ne fun z => by subst z; exact hb fa]; exact e
  · by_cases hb : b = a
    · subst hb; rw [upd_same] at e; cases e
    · rw [upd_ne hb] at e; exact e
  · obtain ⟨b', hb', q⟩ := I.getOk h
    cases I.at_inj ha hb'
    rw [upd_ne fun z => by subst z; exact q.nofrz ho f w e]
    exact e
/-! ### results -/
def RepR (P : Pr) (K : PySem.W.Frag) (μ : List Addr) (s : S) (σ : L2.St) (H : Hp) : R → V → Prop
  | .w x, v => SimW K μ H x v
  | .new o, v => ∃ a, v = .ref a ∧ SimO P K μ H o a ∧ ¬ foot μ s σ a
  | .slot i, v => σ[i]? = some (some v) ∧ ∃ e, s.ρ[i]? = some e ∧ e.obj = true
/-- made behind H₀ -/
def Frs (H₀ : Hp) : R → V → Prop
  | .new _, .ref a => H₀ a = none
  | _, _ => True
theorem SimO.aft {o : O} {a : Addr} (I : Sim P K μ s σ H) (A : Aft P K μ s σ H μ' s' H') (h : SimO P K μ H o a) (n : ¬ foot μ s σ a) : SimO P K μ' H' o a := by
  obtain ⟨n1, n2, n3⟩ := h.notup
  refine h.mono (A.tups I) A.pre ?_ fun dx e => A.step.keep dx _ e fun z => (I.notup z).2.1 _ e
  cases e : H a with
  | none => exact absurd e n3
  | some u => exact A.step.keep a u e n
theorem RepR.aft {r : R} {v : V} (I : Sim P K μ s σ H) (A : Aft P K μ s σ H μ' s' H') (h : RepR P K μ s σ H r v) : RepR P K μ' s' σ H' r v := by
  cases r with
  | w x => exact SimW.mono (A.tups I) A.pre h
  | new o =>
    obtain ⟨a, rfl, q, n⟩ := h
    refine ⟨a, rfl, q.aft I A n, fun z => ?_⟩
    rcases A.step.new a z with z | z
    · exact n z
    · exact q.notup.2.2 z
  | slot i =>
    obtain ⟨h1, e, h2, h3⟩ := h
    exact ⟨h1, A.sl i e h2 h3⟩
theorem Frs.back {r : R} {v : V} {H₀ : Hp} (l : ∀ a, H a = none → H₀ a = none) (h : Frs H r v) : Frs H₀ r v := by
  cases r with
  | new o => cases v <;> first | trivial | exact l _ h
  | w x => trivial
  | slot i => trivial
/-- a state and what it keeps, with room for one address more -/
structure Bx (P : Pr) (K : PySem.W.Frag) (μ : List Addr) (s : S) (σ : L2.St) (H : Hp) (μ' : List Addr) (s' : S) (N : Addr → Prop) : Prop where
  sim : Sim P K μ' s' σ H
  pre : μ <+: μ'
  ft : ∀ a, foot μ' s' σ a → foot μ s σ a ∨ N a
  sl : ∀ (i : Nat) e, s.ρ[i]? = some e → e.obj = true → ∃ e', s'.ρ[i]? = some e' ∧ e'.obj = true
theorem Bx.aft {N : Addr → Prop} {μ₀ : List Addr} {s₀ : S} {H₀ : Hp} (A : Aft P K μ₀ s₀ σ H₀ μ s H) (B : Bx P K μ s σ H μ' s' N) (n : ∀ a, N a → H₀ a = none) : Aft P K μ₀ s₀ σ H₀ μ' s' H :=
  ⟨B.sim, A.pre.trans B.pre, ⟨A.step.keep, fun a h => by
    rcases B.ft a h with h | h
    · exact A.step.new a h
    · exact .inr (n a h), A.step.live, A.step.frz⟩, fun i e h1 h2 => let ⟨e1, h3, h4⟩ := A.sl i e h1 h2; B.sl i e1 h3 h4⟩
def isNew (r : R) (v : V) (a : Addr) : Prop := (∃ o, r = .new o) ∧ v = .ref a
/-- an object of nobody's, of a slot's goes to the heap -/
theorem Sim.toHeap {o : O} {a : Addr} {ρ' : List E0} (I : Sim P K μ s σ H) (q : SimO P K μ H o a) (hn : a ∉ μ) (he : Paired (SimE P K (μ ++ [a]) H) ρ' σ) (sub : ∀ i b, (∃ o, ρ'[i]? = some (.own o)) → σ[i]? = some (some (V.ref b)) → b ≠ a ∧ Owns s σ i b) :
    Sim P K (μ ++ [a]) ⟨ρ', s.h ++ [o]⟩ σ H := by
  have pre : μ <+: μ ++ [a] := List.prefix_append _ _
  refine ⟨?_, he, ?_, fun i b ⟨h1, h2⟩ => ?_, fun i j b ⟨h1, h2⟩ ⟨h3, h4⟩ => ?_⟩
  · exact Paired.snoc (Paired.mapP I.heap fun o b z => z.mono Tups.refl pre rfl fun _ e => e) (q.mono Tups.refl pre rfl fun _ e => e)
  · rw [List.nodup_append]
    exact ⟨I.nd, by simp, fun x hx y hy => by simp at hy; subst hy; intro z; subst z; exact hn hx⟩
  · obtain ⟨ne, ow⟩ := sub i b h1 h2
    intro z
    rcases List.mem_append.mp z with z | z
    · exact I.apart i b ow z
    · simp at z; exact ne z
  · exact I.inj i j b (sub i b h1 h2).2 (sub j b h3 h4).2
theorem Sim.len (I : Sim P K μ s σ H) : s.h.length = μ.length := Paired.length I.heap
theorem Sim.lenE (I : Sim P K μ s σ H) : s.ρ.length = σ.length := Paired.length I.env
theorem Sim.box {r : R} {v : V} {x : W} (I : Sim P K μ s σ H) (h : RepR P K μ s σ H r v) (e : boxR r s = some (x, s')) : ∃ μ', Bx P K μ s σ H μ' s' (isNew r v) ∧ SimW K μ' H x v := by
  have same : ∀ {x : W}, SimW K μ H x v → ∃ μ', Bx P K μ s σ H μ' s (isNew r v) ∧ SimW K μ' H x v := fun q => ⟨μ, ⟨I, List.prefix_refl _, fun a h => .inl h, fun i e h1 h2 => ⟨e, h1, h2⟩⟩, q⟩
  cases r with
  | w y =>
    have e2 : some (y, s) = some (x, s') := e
    cases e2
    exact same h
  | new o =>
    have e2 : some (W.ref s.h.length, (⟨s.ρ, s.h ++ [o]⟩ : S)) = some (x, s') := e
    cases e2
    obtain ⟨a, rfl, q, n⟩ := h
    have pre : μ <+: μ ++ [a] := List.prefix_append _ _
    refine ⟨μ ++ [a], ⟨I.toHeap q (fun z => n (.inl z)) (Paired.mapP I.env fun e v z => ?_) (fun i b h1 h2 => ⟨fun z => n (by subst z; exact .inr ⟨i, h1, h2⟩), h1, h2⟩), pre, fun b hb => ?_, fun i e h1 h2 => ⟨e, h1, h2⟩⟩, .ref (by rw [I.len]; simp)⟩
    · cases e with
      | un => trivial
      | w y => cases v with
        | none => exact z
        | some v => exact SimW.mono Tups.refl pre z
      | own o => cases v with
        | none => exact z
        | some v => cases v <;> first | exact z | skip
                    exact SimO.mono Tups.refl pre rfl (fun _ e => e) z
    · rcases hb with hb | ⟨i, hb⟩
      · rcases List.mem_append.mp hb with hb | hb
        · exact .inl (.inl hb)
        · simp at hb; exact .inr ⟨⟨o, rfl⟩, by rw [hb]⟩
      · exact .inl (.inr ⟨i, hb⟩)
  | slot i =>
    obtain ⟨h1, e1, h2, h3⟩ := h
    obtain ⟨v', hv, q⟩ := paired_get I.env h2
    rw [h1] at hv
    cases hv
    have e2 : (match s.ρ[i]? with
      | some (.own o) => some (W.ref s.h.length, (⟨s.ρ.set i (.w (.ref s.h.length)), s.h ++ [o]⟩ : S))
      | some (.w x) => some (x, s)
      | _ => none) = some (x, s') := e
    rw [h2] at e2
    cases e1 with
    | un => cases h3
    | w y =>
      cases e2
      exact same q
    | own o =>
      cases e2
      cases v <;> first | exact q.elim | skip
      rename_i a
      have ow : Owns s σ i a := ⟨⟨o, h2⟩, h1⟩
      have hi : i < s.ρ.length := (List.getElem?_eq_some_iff.mp h2).1
      have pre : μ <+: μ ++ [a] := List.prefix_append _ _
      have nM : a ∉ μ := I.apart i a ow
      have sub : ∀ (j : Nat) (b : Addr), (∃ o, (s.ρ.set i (.w (.ref s.h.length)))[j]? = some (E0.own o)) → σ[j]? = some (some (V.ref b)) → b ≠ a ∧ Owns s σ j b := fun j b ⟨o', q1⟩ q2 => by
        by_cases hj : i = j
        · subst hj
          rw [List.getElem?_set_self hi] at q1
          cases q1
        · rw [List.getElem?_set_ne hj] at q1
          exact ⟨fun z => hj (I.inj i j a ow (by subst z; exact ⟨⟨o', q1⟩, q2⟩)), ⟨o', q1⟩, q2⟩
      refine ⟨μ ++ [a], ⟨I.toHeap q nM ?_ sub, pre, fun b hb => ?_, fun j e h4 h5 => ?_⟩, .ref (by rw [I.len]; simp)⟩
      · refine paired_setL (y := some (V.ref a)) ?_ i (Paired.mapP I.env fun e v z => ?_) h1
        · exact SimW.ref (by rw [I.len]; simp)
        · cases e with
          | un => trivial
          | w y => cases v with
            | none => exact z
            | some v => exact SimW.mono Tups.refl pre z
          | own o => cases v with
            | none => exact z
            | some v => cases v <;> first | exact z | skip
                        exact SimO.mono Tups.refl pre rfl (fun _ e => e) z
      · rcases hb with hb | ⟨j, hb1, hb2⟩
        · rcases List.mem_append.mp hb with hb | hb
          · exact .inl (.inl hb)
          · simp at hb; exact .inl (.inr ⟨i, by rw [hb]; exact ow⟩)
        · exact .inl (.inr ⟨j, (sub j b hb1 hb2).2⟩)
      · by_cases hj : i = j
        · subst hj
          exact ⟨.w (.ref s.h.length), by show (s.ρ.set i _)[i]? = _; rw [List.getElem?_set_self hi], rfl⟩
        · exact ⟨e, by show (s.ρ.set i _)[j]? = _; rw [List.getElem?_set_ne hj]; exact h4, h5⟩

/-! ### rows of results -/
def newsOf : List R → List V → List Addr
  | .new _ :: rs, .ref a :: vs => a :: newsOf rs vs
  | _ :: rs, _ :: vs => newsOf rs vs
  | _, _ => []
structure RepRs (P : Pr) (K : PySem.W.Frag) (μ : List Addr) (s : S) (σ : L2.St) (H : Hp) (rs : List R) (vs : List V) : Prop where
  all : Paired (RepR P K μ s σ H) rs vs
  nd : (newsOf rs vs).Nodup
theorem newsOf_new {P : Pr} {K : PySem.W.Frag} {μ : List Addr} {s : S} {σ : L2.St} {H : Hp} : ∀ {rs : List R} {vs : List V}, Paired (RepR P K μ s σ H) rs vs → ∀ a ∈ newsOf rs vs, H a ≠ none ∧ ¬ foot μ s σ a
  | _, _, .nil, a, h => by simp [newsOf] at h
  | r :: rs, v :: vs, .cons q t, a, h => by
    cases r with
    | new o =>
      obtain ⟨b, rfl, q1, q2⟩ := q
      simp only [newsOf, List.mem_cons] at h
      rcases h with rfl | h
      · exact ⟨q1.notup.2.2, q2⟩
      · exact newsOf_new t a h
    | w x => exact newsOf_new t a (by simpa [newsOf] using h)
    | slot i => exact newsOf_new t a (by simpa [newsOf] using h)
theorem RepRs.nil : RepRs P K μ s σ H [] [] := ⟨.nil, by simp [newsOf]⟩
theorem RepRs.cons {r : R} {v : V} {rs : List R} {vs : List V} (h : RepR P K μ s σ H r v) (t : RepRs P K μ s σ H rs vs) (n : ∀ a, isNew r v a → a ∉ newsOf rs vs) : RepRs P K μ s σ H (r :: rs) (v :: vs) := by
  refine ⟨.cons h t.all, ?_⟩
  cases r with
  | new o =>
    obtain ⟨b, rfl, _, _⟩ := h
    simp only [newsOf, List.nodup_cons]
    exact ⟨n b ⟨⟨o, rfl⟩, rfl⟩, t.nd⟩
  | w x => simpa [newsOf] using t.nd
  | slot i => simpa [newsOf] using t.nd
theorem RepRs.uncons {r : R} {v : V} {rs : List R} {vs : List V} (h : RepRs P K μ s σ H (r :: rs) (v :: vs)) : RepR P K μ s σ H r v ∧ RepRs P K μ s σ H rs vs ∧ ∀ a, isNew r v a → a ∉ newsOf rs vs := by
  obtain ⟨h1, h2⟩ := h
  cases h1 with
  | cons q t =>
    cases r with
    | new o =>
      obtain ⟨b, rfl, _, _⟩ := id q
      simp only [newsOf, List.nodup_cons] at h2
      exact ⟨q, ⟨t, h2.2⟩, fun a ⟨_, e⟩ => by cases e; exact h2.1⟩
    | w x => exact ⟨q, ⟨t, by simpa [newsOf] using h2⟩, fun a ⟨⟨o, e⟩, _⟩ => nomatch e⟩
    | slot i => exact ⟨q, ⟨t, by simpa [newsOf] using h2⟩, fun a ⟨⟨o, e⟩, _⟩ => nomatch e⟩
/-- results behind a boxing (the heap is as it was) -/
theorem RepR.bx {N : Addr → Prop} {r : R} {v : V} (B : Bx P K μ s σ H μ' s' N) (h : RepR P K μ s σ H r v) (n : ∀ a, isNew r v a → ¬ N a) : RepR P K μ' s' σ H r v := by
  cases r with
  | w x => exact SimW.mono Tups.refl B.pre h
  | new o =>
    obtain ⟨a, rfl, q, nf⟩ := h
    refine ⟨a, rfl, q.mono Tups.refl B.pre rfl (fun _ e => e), fun z => ?_⟩
    rcases B.ft a z with z | z
    · exact nf z
    · exact n a ⟨⟨o, rfl⟩, rfl⟩ z
  | slot i =>
    obtain ⟨h1, e, h2, h3⟩ := h
    exact ⟨h1, B.sl i e h2 h3⟩
theorem isNew_mem {r : R} {v : V} {a : Addr} {rs : List R} {vs : List V} : ∀ (i : Nat), rs[i]? = some r → vs[i]? = some v → isNew r v a → a ∈ newsOf rs vs := by
  induction rs generalizing vs with
  | nil => intro i h; simp at h
  | cons x rs ih =>
    intro i h1 h2 hn
    cases vs with
    | nil => simp at h2
    | cons y vs =>
      cases i with
      | zero =>
        simp at h1 h2
        subst h1 h2
        obtain ⟨⟨o, rfl⟩, rfl⟩ := hn
        simp [newsOf]
      | succ i =>
        have q := ih i (by simpa using h1) (by simpa using h2) hn
        cases x with
        | new o => cases y <;> first | exact q | exact List.mem_cons_of_mem _ q
        | w z => exact q
        | slot z => exact q
theorem RepRs.bx {N : Addr → Prop} {rs : List R} {vs : List V} (B : Bx P K μ s σ H μ' s' N) (h : RepRs P K μ s σ H rs vs) (n : ∀ a ∈ newsOf rs vs, ¬ N a) : RepRs P K μ' s' σ H rs vs := by
  refine ⟨?_, h.nd⟩
  have key : ∀ {rs : List R} {vs : List V}, Paired (RepR P K μ s σ H) rs vs → (∀ a ∈ newsOf rs vs, ¬ N a) → Paired (RepR P K μ' s' σ H) rs vs := by
    intro rs vs q
    induction q with
    | nil => intro _; exact .nil
    | @cons r v rs vs q t ih =>
      intro m
      refine .cons (q.bx B fun a hn => m a (isNew_mem 0 rfl rfl hn)) (ih fun a ha => m a ?_)
      cases r with
      | new o => cases v <;> first | exact ha | exact List.mem_cons_of_mem _ ha
      | w z => exact ha
      | slot z => exact ha
  exact key h.all n
theorem Bx.trans {N N' : Addr → Prop} {μ2 : List Addr} {s2 : S} (a : Bx P K μ s σ H μ' s' N) (b : Bx P K μ' s' σ H μ2 s2 N') : Bx P K μ s σ H μ2 s2 fun x => N x ∨ N' x :=
  ⟨b.sim, a.pre.trans b.pre, fun x h => by
    rcases b.ft x h with h | h
    · exact (a.ft x h).imp id .inl
    · exact .inr (.inr h), fun i e h1 h2 => let ⟨e1, h3, h4⟩ := a.sl i e h1 h2; b.sl i e1 h3 h4⟩
theorem Bx.more {N N' : Addr → Prop} (a : Bx P K μ s σ H μ' s' N) (h : ∀ x, N x → N' x) : Bx P K μ s σ H μ' s' N' := ⟨a.sim, a.pre, fun x q => (a.ft x q).imp id (h x), a.sl⟩
theorem Sim.boxesOk : ∀ {rs : List R} {vs : List V} {μ : List Addr} {s s' : S} {xs : List W}, Sim P K μ s σ H → RepRs P K μ s σ H rs vs → boxes rs s = some (xs, s') →
    ∃ μ', Bx P K μ s σ H μ' s' (fun a => a ∈ newsOf rs vs) ∧ SimWs K μ' H xs vs
  | [], vs, μ, s, s', xs, I, h, e => by
    cases h.all
    cases (show some (([] : List W), s) = some (xs, s') from e)
    exact ⟨μ, ⟨I, List.prefix_refl _, fun a h => .inl h, fun i e h1 h2 => ⟨e, h1, h2⟩⟩, .nil⟩
  | r :: rs, vs, μ, s, s', xs, I, h, e => by
    cases vs with
    | nil => cases h.all
    | cons v vs =>
      obtain ⟨h1, h2, h3⟩ := h.uncons
      have e2 : (match boxR r s with
        | some (x, s1) => match boxes rs s1 with
          | some (xs, s2) => some (x :: xs, s2)
          | none => none
        | none => none) = some (xs, s') := e
      cases q : boxR r s with
      | none => rw [q] at e2; cases e2
      | some y =>
        obtain ⟨x, s1⟩ := y
        rw [q] at e2
        obtain ⟨μ1, B1, w1⟩ := I.box h1 q
        cases q2 : boxes rs s1 with
        | none => simp only [q2] at e2; cases e2
        | some y2 =>
          obtain ⟨xs2, s2⟩ := y2
          simp only [q2] at e2
          cases e2
          obtain ⟨μ2, B2, w2⟩ := Sim.boxesOk B1.sim (h2.bx B1 fun a ha hn => h3 a hn ha) q2
          refine ⟨μ2, (B1.trans B2).more fun a ha => ?_, .cons (w1.mono Tups.refl B2.pre) w2⟩
          rcases ha with ⟨⟨o, rfl⟩, rfl⟩ | ha
          · simp [newsOf]
          · cases r with
            | new o => cases v <;> first | exact ha | exact List.mem_cons_of_mem _ ha
            | w z => exact ha
            | slot z => exact ha

/-! ### a slot is given a value -/
theorem paired_setB {α β : Type} {F : α → β → Prop} {x : α} {y : β} (h : F x y) {xs : List α} {ys : List β} (i : Nat) (p : Paired F xs ys) : Paired F (xs.set i x) (ys.set i y) := paired_set h i p
theorem Bx.aftS {N : Addr → Prop} {μ₀ : List Addr} {s₀ : S} {σ₀ : L2.St} {H₀ : Hp} (A : AftS P K μ₀ s₀ σ₀ H₀ μ s σ H) (B : Bx P K μ s σ H μ' s' N) (n : ∀ a, N a → H₀ a = none) : AftS P K μ₀ s₀ σ₀ H₀ μ' s' σ H :=
  ⟨B.sim, A.pre.trans B.pre, ⟨A.step.keep, fun a h => by
    rcases B.ft a h with h | h
    · exact A.step.new a h
    · exact .inr (n a h), A.step.live, A.step.frz⟩⟩
theorem Sim.asgOk {r : R} {v : V} {i : Nat} {s0 : S} {μ0 : List Addr} {σ0 : L2.St} {H0 : Hp} (A : AftS P K μ0 s0 σ0 H0 μ s σ H) (h : RepR P K μ s σ H r v) (f : Frs H0 r v) (e : asg i r s = some s') : ∃ μ', AftS P K μ0 s0 σ0 H0 μ' s' (σ.set i (some v)) H := by
  have I := A.sim
  have frs : ∀ a, isNew r v a → H0 a = none := fun a ⟨⟨o, e1⟩, e2⟩ => by subst e1 e2; exact f
  -- a value is kept in the slot
  have keepW : ∀ {μ1 : List Addr} {s1 : S} {x : W}, AftS P K μ0 s0 σ0 H0 μ1 s1 σ H → SimW K μ1 H x v → i < s1.ρ.length → AftS P K μ0 s0 σ0 H0 μ1 ⟨s1.ρ.set i (.w x), s1.h⟩ (σ.set i (some v)) H := fun {μ1 s1 x} B q hi => by
    have sub : ∀ (j : Nat) (b : Addr), Owns ⟨s1.ρ.set i (.w x), s1.h⟩ (σ.set i (some v)) j b → Owns s1 σ j b := fun j b ⟨⟨o, q1⟩, q2⟩ => by
      by_cases hj : i = j
      · subst hj
        have q1 : (s1.ρ.set i (.w x))[i]? = some (E0.own o) := q1
        rw [List.getElem?_set_self hi] at q1
        cases q1
      · have q1 : (s1.ρ.set i (.w x))[j]? = some (E0.own o) := q1
        rw [List.getElem?_set_ne hj] at q1 q2
        exact ⟨⟨o, q1⟩, q2⟩
    refine ⟨⟨B.sim.heap, paired_setB (F := SimE P K μ1 H) (x := .w x) (y := some v) q i B.sim.env, B.sim.nd, fun j b z => B.sim.apart j b (sub j b z), fun j k b z1 z2 => B.sim.inj j k b (sub j b z1) (sub k b z2)⟩, B.pre, B.step.keep, fun a z => ?_, B.step.live, B.step.frz⟩
    refine B.step.new a ?_
    rcases z with z | ⟨j, z⟩
    · exact .inl z
    · exact .inr ⟨j, sub j a z⟩
  have boxed : ∀ {x : W} {s1 : S}, boxR r s = some (x, s1) → i < s1.ρ.length → ∃ μ', AftS P K μ0 s0 σ0 H0 μ' ⟨s1.ρ.set i (.w x), s1.h⟩ (σ.set i (some v)) H := fun {x s1} q hi => by
    obtain ⟨μ1, B, w1⟩ := I.box h q
    exact ⟨μ1, keepW (B.aftS A frs) w1 hi⟩
  have viaBox : (match boxR r s with
      | some (x, s1) => if i < s1.ρ.length then some (⟨s1.ρ.set i (.w x), s1.h⟩ : S) else none
      | none => none) = some s' → ∃ μ', AftS P K μ0 s0 σ0 H0 μ' s' (σ.set i (some v)) H := fun e => by
    cases q : boxR r s with
    | none => rw [q] at e; cases e
    | some y =>
      obtain ⟨x, s1⟩ := y
      simp only [q] at e
      by_cases hi : i < s1.ρ.length
      · rw [if_pos hi] at e
        cases e
        exact boxed q hi
      · rw [if_neg hi] at e; cases e
  cases r with
  | w y => exact viaBox e
  | slot j => exact viaBox e
  | new o =>
    have e2 : (if i < s.ρ.length then some (⟨s.ρ.set i (.own o), s.h⟩ : S) else none) = some s' := e
    by_cases hi : i < s.ρ.length
    · rw [if_pos hi] at e2
      cases e2
      obtain ⟨a, rfl, q, n⟩ := h
      have hiσ : i < σ.length := by rw [← I.lenE]; exact hi
      have sub : ∀ (j : Nat) (b : Addr), Owns ⟨s.ρ.set i (.own o), s.h⟩ (σ.set i (some (V.ref a))) j b → (j = i ∧ b = a) ∨ (j ≠ i ∧ Owns s σ j b) := fun j b ⟨⟨u, q1⟩, q2⟩ => by
        by_cases hj : i = j
        · subst hj
          rw [List.getElem?_set_self hiσ] at q2
          cases q2
          exact .inl ⟨rfl, rfl⟩
        · have q1 : (s.ρ.set i (.own o))[j]? = some (E0.own u) := q1
          rw [List.getElem?_set_ne hj] at q1 q2
          exact .inr ⟨fun z => hj z.symm, ⟨u, q1⟩, q2⟩
      refine ⟨μ, ⟨I.heap, paired_setB (show SimE P K μ H (.own o) (some (V.ref a)) from q) i I.env, I.nd, fun j b z => ?_, fun j k b z1 z2 => ?_⟩, A.pre, A.step.keep, fun b z => ?_, A.step.live, A.step.frz⟩
      · rcases sub j b z with ⟨_, rfl⟩ | ⟨_, z⟩
        · exact fun hm => n (.inl hm)
        · exact I.apart j b z
      · rcases sub j b z1 with ⟨e1, e2⟩ | ⟨_, z1⟩
        · rcases sub k b z2 with ⟨e3, _⟩ | ⟨_, y2⟩
          · rw [e1, e3]
          · exact absurd (.inr ⟨k, by rw [← e2]; exact y2⟩) n
        · rcases sub k b z2 with ⟨_, e4⟩ | ⟨_, y2⟩
          · exact absurd (.inr ⟨j, by rw [← e4]; exact z1⟩) n
          · exact I.inj j k b z1 y2
      · rcases z with z | ⟨j, z⟩
        · exact A.step.new b (.inl z)
        · rcases sub j b z with ⟨_, rfl⟩ | ⟨_, z⟩
          · exact .inr f
          · exact A.step.new b (.inr ⟨j, z⟩)
    · rw [if_neg hi] at e2; cases e2
end
end Mn

end
section
set_option Elab.async false
set_option linter.all false
set_option maxRecDepth 100000
set_option maxHeartbeats 4000000
/-! MnRule: each construct of Python against its combinator. -/
namespace Mn
open PySem PySem.Spec PyProof.Rows L2

def ExcAt (P : Pr) (K : PySem.W.Frag) (μ : List Addr) (s : S) (σ : L2.St) (H : Hp) (xs : List (Nat × D)) (d : Addr) : Prop :=
  ∃ fs : List (PySem.Str × V), H d = some (.xd fs) ∧ Paired (fun p q => P.fn p.1 = q.1 ∧ RepD K H p.2 q.2) xs fs ∧ ¬ foot μ s σ d
def Pst (P : Pr) (K : PySem.W.Frag) (Wx : WX) {α : Type} (μ : List Addr) (s : S) (σ : L2.St) (H : Hp) (x : Res α) (Q : α → S → List Addr → Hp → Prop) : Prop := match x with
  | .ok a s' => ∀ μ' H', Aft P K μ s σ H μ' s' H' → Q a s' μ' H'
  | .exc c xs s' => ∀ μ' H' d, Aft P K μ s σ H μ' s' H' → ExcAt P K μ' s' σ H' xs d → Wx (.ref (P.ca c)) (some d) σ H'
  | .bad => False
def tE (P : Pr) (K : PySem.W.Frag) (Wx : WX) (c : Ex) : TE := fun σ H Q => ∃ μ s, Sim P K μ s σ H ∧ Pst P K Wx μ s σ H (c s) fun r s' μ' H' => ∀ v, RepR P K μ' s' σ H' r v → Frs H r v → Q v H'
def tT (P : Pr) (K : PySem.W.Frag) (Wx : WX) (c : Tm) : TT := fun σ H Q => ∃ μ s, Sim P K μ s σ H ∧ Pst P K Wx μ s σ H (c s) fun b s' μ' H' => Q b H'
def tA (P : Pr) (K : PySem.W.Frag) (Wx : WX) (c : As) : TA := fun σ H Q => ∃ μ s, Sim P K μ s σ H ∧ Pst P K Wx μ s σ H (c s) fun rs s' μ' H' => ∀ vs, RepRs P K μ' s' σ H' rs vs → (∀ a ∈ newsOf rs vs, H a = none) → Q vs H'

section
variable {P : Pr} {K : PySem.W.Frag} {Wx : WX} {μ μ' : List Addr} {s s' : S} {σ : L2.St} {H H' : Hp} {α β : Type}
theorem Pst.mono {x : Res α} {Q Q' : α → S → List Addr → Hp → Prop} (h : Pst P K Wx μ s σ H x Q) (m : ∀ a s' μ' H', Aft P K μ s σ H μ' s' H' → Q a s' μ' H' → Q' a s' μ' H') : Pst P K Wx μ s σ H x Q' := by
  cases x with
  | ok a s' => exact fun μ' H' A => m a s' μ' H' A (h μ' H' A)
  | exc c xs s' => exact h
  | bad => exact h
theorem Pst.bind {x : Res α} {k : α → S → Res β} {Q : β → S → List Addr → Hp → Prop} (h : Pst P K Wx μ s σ H (x.bind k) Q) :
    Pst P K Wx μ s σ H x fun a s1 μ1 H1 => Pst P K Wx μ s σ H (k a s1) Q := by
  cases x with
  | ok a s1 => exact fun _ _ _ => h
  | exc c xs s' => exact h
  | bad => exact h
/-- seen from further on -/
theorem Pst.from {μ1 : List Addr} {s1 : S} {H1 : Hp} {x : Res α} {Q : α → S → List Addr → Hp → Prop} (A : Aft P K μ s σ H μ1 s1 H1) (h : Pst P K Wx μ s σ H x Q) : Pst P K Wx μ1 s1 σ H1 x Q := by
  cases x with
  | ok a s2 => exact fun μ2 H2 B => h μ2 H2 (A.trans B)
  | exc c xs s2 => exact fun μ2 H2 d B e => h μ2 H2 d (A.trans B) e
  | bad => exact h
theorem Pst.ok_self {a : α} {Q : α → S → List Addr → Hp → Prop} (I : Sim P K μ s σ H) (h : Pst P K Wx μ s σ H (.ok a s) Q) : Q a s μ H := h μ H (.refl I)
end
theorem PE_imp {X : Cx} {e : PySem.Expr} {t t' : TE} (h : PE X e t) (i : ∀ σ H Q, t' σ H Q → t σ H Q) : PE X e t' := ⟨fun pins s σ H Q I q => h.run pins s σ H Q I (i σ H Q q)⟩
theorem PT_imp {X : Cx} {e : PySem.Expr} {t t' : TT} (h : PT X e t) (i : ∀ σ H Q, t' σ H Q → t σ H Q) : PT X e t' := ⟨fun pins s σ H Q I q => h.run pins s σ H Q I (i σ H Q q)⟩
theorem PW_imp {X : Cx} {e : PySem.Expr} {t t' : TT} (h : PW X e t) (i : ∀ σ H Q, t' σ H Q → t σ H Q) : PW X e t' := ⟨fun wh pins s σ H Q I q => h.run wh pins s σ H Q I (i σ H Q q)⟩
theorem PA_imp {X : Cx} {e : List PySem.Expr} {t t' : TA} (h : PA X e t) (i : ∀ σ H Q, t' σ H Q → t σ H Q) : PA X e t' := ⟨fun pos pins s σ H Q I q => h.run pos pins s σ H Q I (i σ H Q q)⟩
theorem PS_imp {X : Cx} {e : PySem.Stmt} {t t' : TS} (h : PS X e t) (i : ∀ D σ H, t' D σ H → t D σ H) : PS X e t' := ⟨fun pins s σ H D I q => h.run pins s σ H D I (i D σ H q)⟩
theorem PSs_imp {X : Cx} {e : List PySem.Stmt} {t t' : TS} (h : PSs X e t) (i : ∀ D σ H, t' D σ H → t D σ H) : PSs X e t' := ⟨fun pins s σ H D I q => h.run pins s σ H D I (i D σ H q)⟩
theorem PE_or {X : Cx} {e : PySem.Expr} {t t' : TE} (h : PE X e t) (h' : PE X e t') : PE X e fun σ H Q => t σ H Q ∨ t' σ H Q := ⟨fun pins s σ H Q I q => q.elim (h.run pins s σ H Q I) (h'.run pins s σ H Q I)⟩

section
variable {X : Cx} {P : Pr} {Wx : WX} {pos : Pos} {a b c e : PySem.Expr} {ca cb cc : Ex} {es : List PySem.Expr}
/-! ### constants, names -/
theorem tE_k {K : PySem.W.Frag} {x : D} {v : V} {σ : L2.St} {H : Hp} {Q : VK} (r : RepD K H x v) (h : tE P K Wx (kE x) σ H Q) : Q v H := by
  obtain ⟨μ, s, I, h⟩ := h
  exact Pst.ok_self I h v (.d r) trivial
theorem s_int {i : Int} {j : Nat} : PE X (.Constant (.int i) j pos) (tE P X.K Wx (kE (.int i))) := PE_imp pe_int fun σ H Q h => tE_k (.int i) h
theorem s_bl {i : Bool} {j : Nat} : PE X (.Constant (.bool i) j pos) (tE P X.K Wx (kE (.bl i))) := PE_imp pe_bl fun σ H Q h => tE_k (.bl i) h
theorem s_non {j : Nat} : PE X (.Constant .none j pos) (tE P X.K Wx (kE .non)) := PE_imp pe_non fun σ H Q h => tE_k .non h
theorem s_str {x : PySem.Str} {j : Nat} {l : List Nat} (hx : x = sig l) (hl : ∀ c ∈ l, c < 0x110000) : PE X (.Constant (.str x) j pos) (tE P X.K Wx (kE (.str l))) := PE_imp pe_str fun σ H Q h => tE_k (by rw [hx]; exact .str l hl) h
theorem s_v {i : Nat} {x : PySem.Str} (hN : X.N[i]? = some x) (hv : Vis X.env.scope x) (hd : (x == ("__debug__" : PySem.Str)) = false := by decide) (hcd : (x == ("__classdict__" : PySem.Str)) = false := by decide) :
    PE X (.Name x pos) (tE P X.K Wx (vE i)) := PE_imp (pe_var hN hv hd hcd) fun σ H Q h => by
  obtain ⟨μ, s, I, h⟩ := h
  have h : Pst P X.K Wx μ s σ H (match s.ρ[i]? with
    | some (.w x) => Res.ok (R.w x) s
    | some (.own _) => .ok (.slot i) s
    | _ => .bad) _ := h
  cases q : s.ρ[i]? with
  | none => rw [q] at h; exact h.elim
  | some x =>
    rw [q] at h
    obtain ⟨v, e, r⟩ := paired_get I.env q
    cases x with
    | un => exact h.elim
    | w x =>
      cases v with
      | none => exact r.elim
      | some v => exact ⟨v, e, Pst.ok_self I h v r trivial⟩
    | own o =>
      cases v with
      | none => exact r.elim
      | some v => exact ⟨v, e, Pst.ok_self I h v ⟨e, _, q, rfl⟩ trivial⟩

/-! ### rows -/
theorem s_an : PA X [] (tA P X.K Wx asN) := PA_imp pa_nil fun σ H Q h => by
  obtain ⟨μ, s, I, h⟩ := h
  exact Pst.ok_self I h [] .nil (by simp [newsOf])
theorem s_ac {t : As} (ha : PE X e (tE P X.K Wx ca)) (hr : PA X es (tA P X.K Wx t)) (hs : starEach (e :: es) X.env = (false, eval e X.env) :: starEach es X.env := by rfl) : PA X (e :: es) (tA P X.K Wx (asC ca t)) := PA_imp (pa_cons ha hr hs) fun σ H Q h => by
  obtain ⟨μ, s, I, h⟩ := h
  refine ⟨μ, s, I, (Pst.bind h).mono fun r s1 μ1 H1 A h v rv fv => ?_⟩
  refine ⟨μ1, s1, A.sim, ((Pst.bind h).from A).mono fun rs s2 μ2 H2 B h vs rvs fvs => ?_⟩
  have rv2 := rv.aft A.sim B
  have key : ∀ a, isNew r v a → H a = none ∧ H1 a ≠ none := fun a ⟨⟨o, e1⟩, e2⟩ => by
    subst e1 e2
    obtain ⟨b, e3, q, _⟩ := rv
    cases e3
    exact ⟨fv, q.notup.2.2⟩
  refine h μ2 H2 (A.trans B) (v :: vs) (.cons rv2 rvs fun a ha hm => (key a ha).2 (fvs a hm)) fun a ha => ?_
  cases r with
  | new o =>
    obtain ⟨b, rfl, _, _⟩ := rv
    simp only [newsOf, List.mem_cons] at ha
    rcases ha with rfl | ha
    · exact fv
    · exact A.step.live a (fvs a ha)
  | w x => exact A.step.live a (fvs a (by simpa [newsOf] using ha))
  | slot i => exact A.step.live a (fvs a (by simpa [newsOf] using ha))
theorem SimWs_len {K : PySem.W.Frag} {μ : List Addr} {H : Hp} : ∀ {ws : List W} {vs : List V}, SimWs K μ H ws vs → ws.length = vs.length
  | _, _, .nil => rfl
  | _, _, .cons _ t => by simp [SimWs_len t]
theorem RepDs_of {K : PySem.W.Frag} {μ : List Addr} {H : Hp} : ∀ {ws : List W} {vs : List V} {xs : List D}, SimWs K μ H ws vs → alld ws = some xs → RepDs K H xs vs
  | _, _, xs, .nil, e => by simp [alld] at e; subst e; exact .nil
  | w :: ws, v :: vs, xs, .cons q t, e => by
    cases w with
    | d x =>
      simp only [alld] at e
      cases z : alld ws with
      | none => rw [z] at e; cases e
      | some ys =>
        rw [z] at e
        cases e
        cases q with
        | d q => exact .cons q (RepDs_of t z)
    | ref i => simp [alld] at e
    | scr i => simp [alld] at e
    | tup l => simp [alld] at e
theorem SimWs_of {K : PySem.W.Frag} {μ : List Addr} {H : Hp} : ∀ {xs : List D} {vs : List V}, RepDs K H xs vs → SimWs K μ H (xs.map .d) vs
  | _, _, .nil => .nil
  | _, _, .cons q t => .cons (.d q) (SimWs_of t)
theorem SimW_mkTup {K : PySem.W.Frag} {μ : List Addr} {H : Hp} {ws : List W} {vs : List V} {a : Addr} (r : SimWs K μ H ws vs) (h : SqT K H a vs) : SimW K μ H (mkTup ws) (.ref a) := by
  unfold mkTup
  cases e : alld ws with
  | none => exact .tup h r
  | some xs => exact .d (.tup h (RepDs_of r e))
/-- a value's items, by the tuple that it is -/
theorem SimW_items {K : PySem.W.Frag} {μ : List Addr} {H : Hp} {w : W} {v : V} {ws : List W} (r : SimW K μ H w v) (e : w.items = some ws) : ∃ a vs, v = .ref a ∧ SqT K H a vs ∧ SimWs K μ H ws vs := by
  cases r with
  | d r => cases r <;> first | (simp [W.items] at e; done) | skip
           rename_i a vs ds h t
           simp only [W.items, Option.some.injEq] at e
           subst e
           exact ⟨a, vs, rfl, h, SimWs_of t⟩
  | ref _ => simp [W.items] at e
  | scr _ => simp [W.items] at e
  | tup h t =>
    simp only [W.items, Option.some.injEq] at e
    subst e
    exact ⟨_, _, rfl, h, t⟩
/-- a new tuple of what a row gave -/
theorem newTup {K : PySem.W.Frag} {μ : List Addr} {s : S} {σ : L2.St} {H : Hp} {ws : List W} {vs : List V} {p : Addr} (I : Sim P K μ s σ H) (r : SimWs K μ H ws vs) (hp : H p = none) :
    Aft P K μ s σ H μ s (upd H p (.tup vs)) ∧ SimW K μ (upd H p (.tup vs)) (mkTup ws) (.ref p) := by
  have A := I.alloc (o := .tup vs) hp
  exact ⟨A, SimW_mkTup (r.mono (A.tups I) A.pre) (.inl (.inl upd_same))⟩
theorem newLst {K : PySem.W.Frag} {μ : List Addr} {s : S} {σ : L2.St} {H : Hp} {ws : List W} {vs : List V} {p : Addr} (I : Sim P K μ s σ H) (r : SimWs K μ H ws vs) (hp : H p = none) :
    Aft P K μ s σ H μ s (upd H p (.lst vs)) ∧ RepR P K μ s σ (upd H p (.lst vs)) (.new (.lst ws)) (.ref p) := by
  have A := I.alloc (o := .lst vs) hp
  exact ⟨A, p, rfl, ⟨vs, upd_same, r.mono (A.tups I) A.pre⟩, fun z => (I.notup z).2.2 hp⟩
theorem LN_eq : LN = sizeLine := by rw [sizeLine_eq]
theorem s_tup {t : As} {x1} (h : PA X es (tA P X.K Wx t)) : PE X (.Tuple es x1 pos) (tE P X.K Wx (tupE t)) := PE_imp (pe_tup h) fun σ H Q h => by
  obtain ⟨μ, s, I, h⟩ := h
  refine ⟨μ, s, I, (Pst.bind h).mono fun rs s1 μ1 H1 A h vs rvs fvs => ?_⟩
  cases q : boxes rs s1 with
  | none => rw [q] at h; exact h.elim
  | some y =>
    obtain ⟨ws, s2⟩ := y
    rw [q] at h
    obtain ⟨μ2, B, r⟩ := A.sim.boxesOk rvs q
    have A2 := B.aft A fvs
    by_cases hl : ws.length ≤ LN
    · simp only [hl, if_true] at h
      refine ⟨by rw [← SimWs_len r, ← LN_eq]; exact hl, fun p hp => ?_⟩
      obtain ⟨A3, r3⟩ := newTup A2.sim r hp
      exact h μ2 _ (A2.trans A3) _ r3 trivial
    · simp only [hl, if_false] at h
      exact h.elim
theorem s_lst {t : As} (h : PA X es (tA P X.K Wx t)) : PE X (.List es pos) (tE P X.K Wx (lstE t)) := PE_imp (pe_lst h) fun σ H Q h => by
  obtain ⟨μ, s, I, h⟩ := h
  refine ⟨μ, s, I, (Pst.bind h).mono fun rs s1 μ1 H1 A h vs rvs fvs => ?_⟩
  cases q : boxes rs s1 with
  | none => rw [q] at h; exact h.elim
  | some y =>
    obtain ⟨ws, s2⟩ := y
    rw [q] at h
    obtain ⟨μ2, B, r⟩ := A.sim.boxesOk rvs q
    have A2 := B.aft A fvs
    by_cases hl : ws.length ≤ LN
    · simp only [hl, if_true] at h
      refine ⟨by rw [← SimWs_len r, ← LN_eq]; exact hl, fun p hp => ?_⟩
      obtain ⟨A3, r3⟩ := newLst A2.sim r hp
      exact h μ2 _ (A2.trans A3) _ r3 (A2.step.live p hp)
    · simp only [hl, if_false] at h
      exact h.elim
theorem s_dct : PE X (.Dict [] [] pos) (tE P X.K Wx dctE) := PE_imp pe_dnewK fun σ H Q h => by
  obtain ⟨μ, s, I, h⟩ := h
  intro p hp
  have A := I.alloc (o := .dK []) hp
  exact h μ _ A _ ⟨p, rfl, ⟨[], upd_same, .nil⟩, fun z => (I.notup z).2.2 hp⟩ hp
end

/-! ### operators -/
def OpS (P : Pr) (K : PySem.W.Frag) (rr : R2) (f : S → R → R → Option R) : Prop := ∀ (μ : List Addr) (s : S) (σ : L2.St) (H : Hp) (x y : R) (v1 v2 : V) (r : R) (Q : VK), Sim P K μ s σ H → RepR P K μ s σ H x v1 → RepR P K μ s σ H y v2 → f s x y = some r →
  (∀ μ' H' v, Aft P K μ s σ H μ' s H' → RepR P K μ' s σ H' r v → Frs H r v → Q v H') → rr v1 v2 H Q
section
variable {X : Cx} {P : Pr} {Wx : WX} {pos : Pos} {a b c e : PySem.Expr} {ca cb cc : Ex} {es : List PySem.Expr} {f g : S → R → R → Option R} {rr rr' : R2}
theorem tOp_of {K : PySem.W.Frag} (hf : OpS P K rr f) {σ : L2.St} {H : Hp} {Q : VK} (h : tE P K Wx (op2 f ca cb) σ H Q) : tOp rr (tE P K Wx ca) (tE P K Wx cb) σ H Q := by
  obtain ⟨μ, s, I, h⟩ := h
  refine ⟨μ, s, I, (Pst.bind h).mono fun x s1 μ1 H1 A h v1 r1 f1 => ?_⟩
  refine ⟨μ1, s1, A.sim, ((Pst.bind h).from A).mono fun y s2 μ2 H2 B h v2 r2 f2 => ?_⟩
  cases q : f s2 x y with
  | none => rw [q] at h; exact h.elim
  | some r =>
    rw [q] at h
    exact hf μ2 s2 σ H2 x y v1 v2 r Q B.sim (r1.aft A.sim B) r2 q fun μ' H' v C r3 f3 => h μ' H' ((A.trans B).trans C) v r3 (f3.back (A.trans B).step.live)
theorem s_op {op : Operator} (ho : OpR X (binaryOp op) rr) (hf : OpS P X.K rr f) (ha : PE X a (tE P X.K Wx ca)) (hb : PE X b (tE P X.K Wx cb)) : PE X (.BinOp a op b pos) (tE P X.K Wx (op2 f ca cb)) :=
  PE_imp (pe_op ho ha hb) fun _ _ _ h => tOp_of hf h
theorem s_cmp {op : CmpOp} (ho : OpR X (compareOp op) rr) (hf : OpS P X.K rr f) (ha : PE X a (tE P X.K Wx ca)) (hb : PE X b (tE P X.K Wx cb)) (hm : behindInMarks op b = false) : PE X (.Compare a [op] [b] pos) (tE P X.K Wx (op2 f ca cb)) :=
  PE_imp (pe_cmpR ho ha hb hm) fun _ _ _ h => tOp_of hf h
end
section
variable {P : Pr} {K : PySem.W.Frag} {μ : List Addr} {s : S} {σ : L2.St} {H : Hp}
theorem rep_int {i : Int} {v : V} (h : RepR P K μ s σ H (iR i) v) : v = .int i := by
  cases (show SimW K μ H (.d (.int i)) v from h) with
  | d q => cases q; rfl
theorem rep_str {i : List Nat} {v : V} (h : RepR P K μ s σ H (.w (.d (.str i))) v) : v = .str (sig i) ∧ ∀ c ∈ i, c < 0x110000 := by
  cases (show SimW K μ H (.d (.str i)) v from h) with
  | d q => cases q; exact ⟨rfl, by assumption⟩
theorem rep_bl {i : Bool} {v : V} (h : RepR P K μ s σ H (bR i) v) : v = .bl i := by
  cases (show SimW K μ H (.d (.bl i)) v from h) with
  | d q => cases q; rfl
theorem rep_iR {i : Int} : RepR P K μ s σ H (iR i) (.int i) := SimW.d (.int i)
theorem rep_bR {i : Bool} : RepR P K μ s σ H (bR i) (.bl i) := SimW.d (.bl i)
/-- where an object's result stands -/
theorem Sim.obj (I : Sim P K μ s σ H) {r : R} {v : V} {o : O} (h : RepR P K μ s σ H r v) (e : objR s r = some o) : ∃ a, v = .ref a ∧ SimO P K μ H o a ∧ (∀ x, locR s r = some x → AtS μ s σ x a ∧ getO s x = some o) := by
  cases r with
  | new o' =>
    cases (show some o' = some o from e)
    obtain ⟨a, e1, q, _⟩ := h
    exact ⟨a, e1, q, fun x z => nomatch (show (none : Option Src) = some x from z)⟩
  | w x =>
    cases x with
    | d x => exact nomatch (show (none : Option O) = some o from e)
    | scr x => exact nomatch (show (none : Option O) = some o from e)
    | tup x => exact nomatch (show (none : Option O) = some o from e)
    | ref j =>
      have e1 : s.h[j]? = some o := e
      cases (show SimW K μ H (.ref j) v from h) with
      | @ref _ a ea =>
        obtain ⟨b, eb, q⟩ := paired_get I.heap e1
        rw [ea] at eb
        cases eb
        exact ⟨a, rfl, q, fun x z => by cases (show some (Src.hp j) = some x from z); exact ⟨ea, e1⟩⟩
  | slot i =>
    obtain ⟨h1, e0, h2, h3⟩ := h
    obtain ⟨v', hv, q⟩ := paired_get I.env h2
    rw [h1] at hv
    cases hv
    have e : (match (match s.ρ[i]? with
        | some (.own _) => some (Src.sl i)
        | some (.w (.ref j)) => some (.hp j)
        | _ => none) with
      | some x => getO s x
      | none => none) = some o := e
    have L : locR s (.slot i) = (match s.ρ[i]? with
        | some (.own _) => some (Src.sl i)
        | some (.w (.ref j)) => some (.hp j)
        | _ => none) := rfl
    rw [h2] at e
    rw [L, h2]
    cases e0 with
    | un => cases h3
    | own o' =>
      have g : getO s (.sl i) = some o' := by
        show (match s.ρ[i]? with | some (.own o) => some o | _ => none) = _
        rw [h2]
      have e : getO s (.sl i) = some o := e
      rw [g] at e
      cases e
      cases v <;> first | exact q.elim | skip
      exact ⟨_, rfl, q, fun x z => by cases z; exact ⟨⟨⟨_, h2⟩, h1⟩, g⟩⟩
    | w x =>
      cases x with
      | d x => cases e
      | tup x => cases e
      | scr x => cases e
      | ref j =>
        have e1 : s.h[j]? = some o := e
        cases (show SimW K μ H (.ref j) v from q) with
        | @ref _ a ea =>
          obtain ⟨b, eb, q⟩ := paired_get I.heap e1
          rw [ea] at eb
          cases eb
          exact ⟨a, rfl, q, fun x z => by cases z; exact ⟨ea, e1⟩⟩
/-- a sequence's items -/
theorem Sim.seq (I : Sim P K μ s σ H) {r : R} {v : V} {k : Bool} {ws : List W} (h : RepR P K μ s σ H r v) (e : seqR s r = some (k, ws)) :
    ∃ a vs, v = .ref a ∧ SimWs K μ H ws vs ∧ (if k then H a = some (.lst vs) else SqT K H a vs) := by
  have viaO : ∀ {r : R}, RepR P K μ s σ H r v → (match objR s r with | some (.lst ws) => some (true, ws) | _ => none) = some (k, ws) → ∃ a vs, v = .ref a ∧ SimWs K μ H ws vs ∧ (if k then H a = some (.lst vs) else SqT K H a vs) := fun {r} h e => by
    cases q : objR s r with
    | none => rw [q] at e; cases e
    | some o =>
      rw [q] at e
      cases o with
      | lst ws' =>
        cases e
        obtain ⟨a, e1, ⟨vs, e2, rr⟩, _⟩ := I.obj h q
        exact ⟨a, vs, e1, rr, e2⟩
      | dct _ _ => cases e
      | ins _ _ => cases e
  cases r with
  | new o => exact viaO h e
  | slot i => exact viaO h e
  | w x =>
    cases x with
    | ref j => exact viaO h e
    | scr x => exact viaO (r := .w (.scr x)) h e
    | tup ws' =>
      cases (show some (false, ws') = some (k, ws) from e)
      obtain ⟨a, vs, e1, e2, e3⟩ := SimW_items (w := .tup ws) h rfl
      exact ⟨a, vs, e1, e3, e2⟩
    | d x =>
      cases x with
      | tup xs =>
        cases (show some (false, xs.map W.d) = some (k, ws) from e)
        obtain ⟨a, vs, e1, e2, e3⟩ := SimW_items (w := .d (.tup xs)) h rfl
        exact ⟨a, vs, e1, e3, e2⟩
      | non => exact viaO (r := .w (.d .non)) h e
      | bl b => exact viaO (r := .w (.d (.bl b))) h e
      | int i => exact viaO (r := .w (.d (.int i))) h e
      | str i => exact viaO (r := .w (.d (.str i))) h e
theorem SimWs.append : ∀ {xs ys : List W} {us vs : List V}, SimWs K μ H xs us → SimWs K μ H ys vs → SimWs K μ H (xs ++ ys) (us ++ vs)
  | _, _, _, _, .nil, h => h
  | _, _, _, _, .cons q t, h => .cons q (SimWs.append t h)
theorem SimWs.rep {xs : List W} {us : List V} (h : SimWs K μ H xs us) : ∀ k : Nat, SimWs K μ H (List.replicate k xs).flatten (List.replicate k us).flatten
  | 0 => .nil
  | k + 1 => by
    rw [List.replicate_succ, List.replicate_succ, List.flatten_cons, List.flatten_cons]
    exact SimWs.append h (SimWs.rep h k)
theorem SimWs.map_d {xs : List D} {vs : List V} (h : SimWs K μ H (xs.map W.d) vs) : RepDs K H xs vs := RepDs_of h (alld_map xs)
theorem sig_app (a b : List Nat) : sig (a ++ b) = sig a ++ sig b := by
  show (⟨(a ++ b).toArray⟩ : PySem.Str) = ⟨a.toArray ++ b.toArray⟩
  simp
theorem sig_len (a : List Nat) : (sig a).length = a.length := by simp [PySem.Str.length]
end
def rAdd4 (K : PySem.W.Frag) : R2 := fun x y H Q => rI0 (fun i j => .int (i + j)) x y H Q ∨ (∃ i j, x = .str i ∧ y = .str j ∧ i.length + j.length ≤ sizeLine ∧ Q (.str (i ++ j)) H) ∨ rCatA K x y H Q ∨ rCat x y H Q
theorem op_add4 {X : Cx} : OpR X (binaryOp .Add) (rAdd4 X.K) := op_add.or (op_add_str.or (op_catA.or op_cat))
/-- a sum of tuples -/
theorem catA_of {P : Pr} {K : PySem.W.Frag} {μ : List Addr} {s : S} {σ : L2.St} {H : Hp} {Q : VK} {a b : Addr} {us vs : List V} {xs ys : List W} (I : Sim P K μ s σ H) (ha : SqT K H a us) (hb : SqT K H b vs) (ra : SimWs K μ H xs us) (rb : SimWs K μ H ys vs)
    (hl : us.length + vs.length ≤ sizeLine) (h : ∀ μ' H' v, Aft P K μ s σ H μ' s H' → RepR P K μ' s σ H' (.w (mkTup (xs ++ ys))) v → Frs H (.w (mkTup (xs ++ ys))) v → Q v H') : rCatA K (.ref a) (.ref b) H Q := by
  refine ⟨a, b, us, vs, rfl, rfl, ha, hb, hl, fun e => ?_, fun _ e => ?_, fun _ _ p hp => ?_⟩
  · subst e
    cases ra
    exact h μ H _ (.refl I) (SimW_mkTup rb hb) trivial
  · subst e
    cases rb
    exact h μ H _ (.refl I) (by rw [List.append_nil]; exact SimW_mkTup ra ha) trivial
  · obtain ⟨A, r⟩ := newTup I (ra.append rb) hp
    exact h μ _ _ A r trivial
theorem add_S {P : Pr} {K : PySem.W.Frag} : OpS P K (rAdd4 K) addV := fun μ s σ H x y v1 v2 r Q I h1 h2 e h => by
  have general : ∀ {x y : R}, RepR P K μ s σ H x v1 → RepR P K μ s σ H y v2 → (match seqR s x, seqR s y with
      | some (false, a), some (false, b) => if a.length + b.length ≤ LN then some (R.w (mkTup (a ++ b))) else none
      | some (true, a), some (true, b) => if a.length + b.length ≤ LN then some (R.new (.lst (a ++ b))) else none
      | _, _ => none) = some r → rAdd4 K v1 v2 H Q := fun {x y} h1 h2 e => by
    cases qx : seqR s x with
    | none => rw [qx] at e; cases e
    | some kx =>
      obtain ⟨k1, ws1⟩ := kx
      cases qy : seqR s y with
      | none => rw [qx, qy] at e; cases k1 <;> cases e
      | some ky =>
        obtain ⟨k2, ws2⟩ := ky
        rw [qx, qy] at e
        obtain ⟨a, us, rfl, ra, ha⟩ := I.seq h1 qx
        obtain ⟨b, vs, rfl, rb, hb⟩ := I.seq h2 qy
        have la := SimWs_len ra
        have lb := SimWs_len rb
        cases k1 with
        | false =>
          cases k2 with
          | true => cases e
          | false =>
            by_cases hl : ws1.length + ws2.length ≤ LN
            · simp only [hl, if_true, Option.some.injEq] at e
              subst e
              exact .inr (.inr (.inl (catA_of I ha hb ra rb (by rw [← la, ← lb, ← LN_eq]; exact hl) h)))
            · simp only [hl, if_false] at e; cases e
        | true =>
          cases k2 with
          | false => cases e
          | true =>
            by_cases hl : ws1.length + ws2.length ≤ LN
            · simp only [hl, if_true, Option.some.injEq] at e
              subst e
              refine .inr (.inr (.inr ⟨a, b, us, vs, rfl, rfl, ha, hb, by rw [← la, ← lb, ← LN_eq]; exact hl, fun p hp => ?_⟩))
              obtain ⟨A, rr⟩ := newLst I (ra.append rb) hp
              exact h μ _ _ A rr hp
            · simp only [hl, if_false] at e; cases e
  unfold addV at e
  split at e
  · rename_i i j
    cases e
    rw [rep_int h1, rep_int h2]
    exact .inl ⟨i, j, rfl, rfl, h μ H _ (.refl I) rep_iR trivial⟩
  · rename_i i j
    split at e
    · cases e
      obtain ⟨e1, o1⟩ := rep_str h1
      obtain ⟨e2, o2⟩ := rep_str h2
      rw [e1, e2]
      refine .inr (.inl ⟨_, _, rfl, rfl, by rw [sig_len, sig_len, ← LN_eq]; assumption, ?_⟩)
      rw [← sig_app]
      exact h μ H _ (.refl I) (SimW.d (.str _ fun c hc => (List.mem_append.mp hc).elim (o1 c) (o2 c))) trivial
    · cases e
  · rename_i i j
    refine general h1 h2 ?_
    show (if (i.map W.d).length + (j.map W.d).length ≤ LN then some (R.w (mkTup (i.map W.d ++ j.map W.d))) else none) = some r
    rw [← List.map_append, mkTup_map, List.length_map, List.length_map]
    exact e
  · exact general h1 h2 e
theorem int2_S {P : Pr} {K : PySem.W.Frag} {f : S → R → R → Option R} {C : Int → Int → Prop} {g : Int → Int → D} {gv : Int → Int → V} (hg : ∀ i j H, RepD K H (g i j) (gv i j))
    (hf : ∀ s x y r, f s x y = some r → ∃ i j, x = iR i ∧ y = iR j ∧ C i j ∧ r = .w (.d (g i j))) : OpS P K (rI C gv) f := fun μ s σ H x y v1 v2 r Q I h1 h2 e h => by
  obtain ⟨i, j, rfl, rfl, hc, rfl⟩ := hf s x y r e
  rw [rep_int h1, rep_int h2]
  exact ⟨i, j, rfl, rfl, hc, h μ H _ (.refl I) (SimW.d (hg i j H)) trivial⟩
theorem sub_S {P : Pr} {K : PySem.W.Frag} : OpS P K (rI (fun _ _ => True) fun i j => .int (i - j)) subV := int2_S (g := fun i j => .int (i - j)) (fun _ _ _ => .int _) fun s x y r e => by
  unfold subV at e
  split at e <;> cases e
  exact ⟨_, _, rfl, rfl, trivial, rfl⟩
theorem op_subC {X : Cx} : OpR X (binaryOp .Sub) (rI (fun _ _ => True) fun i j => .int (i - j)) := opI fun _ _ _ _ _ _ _ _ q => sub_int q
theorem mod_S {P : Pr} {K : PySem.W.Frag} : OpS P K (rI (fun _ j => 0 < j) fun i j => .int (i % j)) modV := int2_S (g := fun i j => .int (i % j)) (fun _ _ _ => .int _) fun s x y r e => by
  unfold modV at e
  split at e <;> first | (cases e; done) | skip
  split at e <;> cases e
  exact ⟨_, _, rfl, rfl, by assumption, rfl⟩
theorem div_S {P : Pr} {K : PySem.W.Frag} : OpS P K (rI CDivW fun i j => .int (i / j)) divV := int2_S (g := fun i j => .int (i / j)) (fun _ _ _ => .int _) fun s x y r e => by
  unfold divV at e
  split at e <;> first | (cases e; done) | skip
  split at e <;> cases e
  exact ⟨_, _, rfl, rfl, by assumption, rfl⟩
theorem pow_S {P : Pr} {K : PySem.W.Frag} : OpS P K (rI CPow fun i j => .int (i ^ j.toNat)) powV := int2_S (g := fun i j => .int (i ^ j.toNat)) (fun _ _ _ => .int _) fun s x y r e => by
  unfold powV at e
  split at e <;> first | (cases e; done) | skip
  split at e <;> cases e
  exact ⟨_, _, rfl, rfl, by assumption, rfl⟩
theorem shl_S {P : Pr} {K : PySem.W.Frag} : OpS P K (rI CPow fun i j => .int (i * 2 ^ j.toNat)) shlV := int2_S (g := fun i j => .int (i * 2 ^ j.toNat)) (fun _ _ _ => .int _) fun s x y r e => by
  unfold shlV at e
  split at e <;> first | (cases e; done) | skip
  split at e <;> cases e
  exact ⟨_, _, rfl, rfl, by assumption, rfl⟩
/-- t * 1 is t; so is () * k -/
theorem tuple_mul1 (l : Addr) (items : Array Value) (n : Nat) (dd : Option Addr) (sl : Array (Option Value)) (x : Int) (u : Tok) (c0 : (decide (x < -(2 ^ 63)) || decide (x ≥ 2 ^ 63)) = false) (c1 : (items.isEmpty || x == 1) = true) :
    Meets (Builtin.«tuple.__mul__» ⟨[.ref l, .int x u], []⟩) (fun _ R s => s.heap.get? l = some { cls := .type "tuple", dict := dd, data := .seq items n, slots := sl } ∧ R (.ok (.ret (Value.ref l))) s) :=
  .of_wp fun prog w A R s h => by
    obtain ⟨hp, g, d, tk, os⟩ := s
    obtain ⟨hl, h⟩ := h
    have f1 := AutoSeq1.idx_int
    wp_walk using wpAny_loadPart' hl
    repeat (first
      | (refine wpAny_ite_false (decide_eq_false (by rw [c0]; exact Bool.false_ne_true)) ?_; wp_walk using wpAny_loadPart' hl)
      | (rw [c1]; wp_walk using wpAny_loadPart' hl))
    exact ⟨_, rfl, h⟩
theorem tuple_mul0 (l : Addr) (items : Array Value) (n : Nat) (dd : Option Addr) (sl : Array (Option Value)) (x : Int) (u : Tok) (c0 : (decide (x < -(2 ^ 63)) || decide (x ≥ 2 ^ 63)) = false) (c1 : (items.isEmpty || x == 1) = false) (c2 : (decide (x ≤ 0) || items.isEmpty) = true) :
    Meets (Builtin.«tuple.__mul__» ⟨[.ref l, .int x u], []⟩) (fun _ R s => s.heap.get? l = some { cls := .type "tuple", dict := dd, data := .seq items n, slots := sl } ∧ R (.ok (.ret (Value.ref s.heap.objs.size))) { s with heap := s.heap.push { cls := Value.type "tuple", data := Data.seq #[] }, toks := s.toks }) :=
  .of_wp fun prog w A R s h => by
    obtain ⟨hp, g, d, tk, os⟩ := s
    obtain ⟨hl, h⟩ := h
    have f1 := AutoSeq1.idx_int
    wp_walk using wpAny_loadPart' hl
    repeat (first
      | (refine wpAny_ite_false (decide_eq_false (by rw [c0]; exact Bool.false_ne_true)) ?_; wp_walk using wpAny_loadPart' hl)
      | (refine wpAny_ite_false (decide_eq_false (by rw [c1]; exact Bool.false_ne_true)) ?_; wp_walk using wpAny_loadPart' hl)
      | (rw [c2]; wp_walk using wpAny_loadPart' hl))
    exact ⟨_, rfl, h⟩
def rRepA (K : PySem.W.Frag) : R2 := fun x y H Q => ∃ l k xs, x = .ref l ∧ y = .int k ∧ SqT K H l xs ∧ -1000 ≤ k ∧ k ≤ 1000 ∧ xs.length ≤ 1000 ∧ (xs = [] ∨ k = 1 → Q (.ref l) H) ∧ (xs ≠ [] → k ≠ 1 → ∀ p, H p = none → Q (.ref p) (upd H p (.tup (List.replicate k.toNat xs).flatten)))
theorem op_repA {X : Cx} : OpR X (binaryOp .Mult) (rRepA X.K) := by
  intro pins s σ H x y v u Q I rx ry h
  obtain ⟨l, k, xs, rfl, rfl, hT, h1, h2, hz, q1, q2⟩ := h
  by_cases hbig : xs ≠ [] ∧ 2 ≤ k
  · exact op_repT pins s σ H _ _ v u Q I rx ry ⟨l, k, xs, rfl, rfl, hT, hbig.1, hbig.2, h2, hz, q2 hbig.1 (by omega)⟩
  cases rx
  obtain ⟨t, rfl⟩ := ry
  obtain ⟨its, r, ⟨⟨cls, dd, data, sl⟩, ho, hc, n, hd⟩, hs⟩ := I.tuple hT
  simp only at hc hd
  subst hc hd
  have hle : its.length = xs.length := r.length.symm
  have c0 : (decide (k < -(2 ^ 63)) || decide (k ≥ 2 ^ 63)) = false := by
    rw [decide_eq_false (by omega), decide_eq_false (by omega)] <;> rfl
  by_cases hk : xs = [] ∨ k = 1
  · have c1 : (its.toArray.isEmpty || k == 1) = true := by
      rcases hk with hk | hk
      · subst hk
        cases its with
        | nil => rfl
        | cons a b => simp at hle
      · subst hk; simp
    exact wpAny_binaryOp_repeat_ref (T := "tuple") (U := "int") (by decide) ⟨_, ho, rfl⟩ (fun s' => typeIs_int s' k t) noFill_tuple_mul F.fills_int_mul F.slot_int_rmul repeat_tuple F.slot_int_index.lookup
      (call_meets F.slot_int_rmul (typeIs_int s k t) F.entry_int_rmul (F.args_int_rmul_2 _ _) (int_rmul_tuple k t l its.toArray n dd sl)
        ⟨ho, rfl, ⟨_, ho, rfl⟩, call_meets F.slot_tuple_mul ⟨_, ho, rfl⟩ F.entry_tuple_mul (F.args_tuple_mul_2 _ _) (tuple_mul1 l its.toArray n dd sl k t c0 c1) ⟨ho, ⟨.ref l, H, I, rfl, q1 hk⟩⟩⟩)
  · have hx : xs ≠ [] := fun z => hk (.inl z)
    have hk1 : k ≠ 1 := fun z => hk (.inr z)
    have hk0 : k ≤ 0 := by
      by_cases z : 2 ≤ k
      · exact absurd ⟨hx, z⟩ hbig
      · omega
    have hi : its.toArray.isEmpty = false := by
      cases its with
      | nil => exact absurd (List.eq_nil_of_length_eq_zero (by simpa using hle.symm)) hx
      | cons a b => rfl
    have c1 : (its.toArray.isEmpty || k == 1) = false := by
      rw [hi, Bool.false_or]
      exact beq_eq_false_iff_ne.mpr hk1
    have c2 : (decide (k ≤ 0) || its.toArray.isEmpty) = true := by rw [decide_eq_true hk0]; rfl
    refine wpAny_binaryOp_repeat_ref (T := "tuple") (U := "int") (by decide) ⟨_, ho, rfl⟩ (fun s' => typeIs_int s' k t) noFill_tuple_mul F.fills_int_mul F.slot_int_rmul repeat_tuple F.slot_int_index.lookup
      (call_meets F.slot_int_rmul (typeIs_int s k t) F.entry_int_rmul (F.args_int_rmul_2 _ _) (int_rmul_tuple k t l its.toArray n dd sl)
        ⟨ho, rfl, ⟨_, ho, rfl⟩, call_meets F.slot_tuple_mul ⟨_, ho, rfl⟩ F.entry_tuple_mul (F.args_tuple_mul_2 _ _) (tuple_mul0 l its.toArray n dd sl k t c0 c1 c2) ⟨ho, ?_⟩⟩)
    have e0 : (List.replicate k.toNat xs).flatten = [] := by
      have : k.toNat = 0 := by omega
      rw [this]; rfl
    have q := q2 hx hk1
    rw [e0] at q
    exact ⟨.ref s.heap.objs.size, _, I.laid (t' := s.toks) (o := .tup []) (fun b ob q => Heap.get?_push_of_some _ q) (Nat.le_refl _) ⟨Nat.zero_le _, [], .nil, IsTup.new _ _⟩, rfl, q _ (I.hok.fresh (Nat.le_refl _))⟩

def rMul4 (K : PySem.W.Frag) : R2 := fun x y H Q => rI CMul (fun i j => .int (i * j)) x y H Q ∨ rI CMulW (fun i j => .int (i * j)) x y H Q ∨ rRepA K x y H Q ∨ rRep x y H Q
theorem op_mul4 {X : Cx} : OpR X (binaryOp .Mult) (rMul4 X.K) := op_mul.or (op_mulW.or (op_repA.or op_rep))
theorem mulOk_of {i j : Int} (h : mulOk i j = true) : CMul i j ∨ CMulW i j := by
  unfold mulOk at h
  simp only [Bool.or_eq_true, decide_eq_true_eq] at h
  rcases h with (h | h) | h
  · exact .inl (.inl ⟨by omega, by omega⟩)
  · exact .inl (.inr ⟨by omega, by omega⟩)
  · exact .inr h
theorem RepDs_len {K : PySem.W.Frag} {H : Hp} {xs : List D} {vs : List V} (h : RepDs K H xs vs) : xs.length = vs.length := by
  have := SimWs_len (SimWs_of (μ := []) h)
  simpa using this
theorem flatten_map {α β : Type} (f : α → β) (l : List α) : ∀ k : Nat, ((List.replicate k l).flatten).map f = (List.replicate k (l.map f)).flatten
  | 0 => rfl
  | k + 1 => by rw [List.replicate_succ, List.replicate_succ, List.flatten_cons, List.flatten_cons, List.map_append, flatten_map f l k]
theorem mul_S {P : Pr} {K : PySem.W.Frag} : OpS P K (rMul4 K) mulV := fun μ s σ H x y v1 v2 r Q I h1 h2 e h => by
  unfold mulV at e
  split at e
  · rename_i i j
    split at e <;> cases e
    rename_i hm
    rw [rep_int h1, rep_int h2]
    have q := h μ H _ (.refl I) (rep_iR (i := i * j)) trivial
    rcases mulOk_of hm with z | z
    · exact .inl ⟨i, j, rfl, rfl, z, q⟩
    · exact .inr (.inl ⟨i, j, rfl, rfl, z, q⟩)
  · rename_i a k
    split at e <;> cases e
    rename_i hm
    rw [rep_int h2]
    obtain ⟨p, vs, rfl, rs, hp⟩ := I.seq (r := .w (.d (.tup a))) h1 rfl
    have hl : a.length = vs.length := by simpa using SimWs_len rs
    refine .inr (.inr (.inl ⟨p, k, vs, rfl, rfl, hp, hm.1, hm.2.1, by omega, fun z => ?_, fun z1 z2 q hq => ?_⟩))
    · refine h μ H _ (.refl I) ?_ trivial
      have e1 : (List.replicate k.toNat a).flatten = a := by
        rcases z with z | z
        · subst z
          have : a = [] := List.eq_nil_of_length_eq_zero (by simpa using hl)
          subst this
          simp
        · subst z; simp
      rw [e1]
      exact h1
    · obtain ⟨A, r3⟩ := newTup I (rs.rep k.toNat) hq
      rw [← flatten_map, mkTup_map] at r3
      exact h μ _ _ A r3 trivial
  · rename_i k _ _
    cases q : objR s x with
    | none => rw [q] at e; cases e
    | some o =>
      rw [q] at e
      cases o with
      | dct _ _ => cases e
      | ins _ _ => cases e
      | lst ws =>
        simp only at e
        split at e <;> cases e
        rename_i hm
        obtain ⟨p, rfl, ⟨vs, e2, rs⟩, _⟩ := I.obj h1 q
        rw [rep_int h2]
        refine .inr (.inr (.inr ⟨p, k, vs, rfl, rfl, e2, hm.1, hm.2.1, by rw [← SimWs_len rs, ← LN_eq]; exact hm.2.2, fun b hb => ?_⟩))
        obtain ⟨A, r3⟩ := newLst I (rs.rep k.toNat) hb
        exact h μ _ _ A r3 hb
  · cases e

/-! ### comparisons -/
theorem cmpI_S {P : Pr} {K : PySem.W.Frag} {p : Int → Int → Bool} {gv : Int → Int → V} (hg : ∀ i j, gv i j = .bl (p i j)) : OpS P K (rI0 gv) (cmpI p) := fun μ s σ H x y v1 v2 r Q I h1 h2 e h => by
  unfold cmpI at e
  split at e <;> cases e
  rename_i i j
  rw [rep_int h1, rep_int h2]
  refine ⟨i, j, rfl, rfl, ?_⟩
  rw [hg]
  exact h μ H _ (.refl I) rep_bR trivial
def rIsN2 : R2 := fun x y H Q => y = .non ∧ Q (.bl (decide (x = .non))) H
def rNotN2 : R2 := fun x y H Q => y = .non ∧ Q (.bl (!decide (x = .non))) H
theorem isNon_of {P : Pr} {K : PySem.W.Frag} {μ : List Addr} {s : S} {σ : L2.St} {H : Hp} {x : R} {v : V} (I : Sim P K μ s σ H) (h : RepR P K μ s σ H x v) : decide (v = .non) = isNon x := by
  cases x with
  | w x =>
    cases (show SimW K μ H x v from h) with
    | d q => cases q <;> rfl
    | ref _ => rfl
    | tup _ _ => rfl
    | scr _ => rfl
  | new o =>
    obtain ⟨a, rfl, _⟩ := h
    rfl
  | slot i =>
    obtain ⟨h1, e, h2, h3⟩ := h
    obtain ⟨v', hv, q⟩ := paired_get I.env h2
    rw [h1] at hv
    cases hv
    cases e with
    | un => cases h3
    | own o => cases v <;> first | exact q.elim | rfl
    | w x =>
      cases x with
      | d _ => cases h3
      | tup _ => cases h3
      | scr _ => cases h3
      | ref j => cases (show SimW K μ H (.ref j) v from q); rfl
theorem is_S {P : Pr} {K : PySem.W.Frag} : OpS P K rIsN2 isV := fun μ s σ H x y v1 v2 r Q I h1 h2 e h => by
  unfold isV at e
  split at e <;> cases e
  rename_i hy
  refine ⟨of_decide_eq_true ((isNon_of I h2).trans hy), ?_⟩
  rw [isNon_of I h1]
  exact h μ H _ (.refl I) rep_bR trivial
theorem isnt_S {P : Pr} {K : PySem.W.Frag} : OpS P K rNotN2 isntV := fun μ s σ H x y v1 v2 r Q I h1 h2 e h => by
  unfold isntV at e
  split at e <;> cases e
  rename_i hy
  refine ⟨of_decide_eq_true ((isNon_of I h2).trans hy), ?_⟩
  rw [isNon_of I h1]
  exact h μ H _ (.refl I) rep_bR trivial
mutual
def D.py : D → PyData
  | .non => .none
  | .bl b => .bool b
  | .int i => .int i
  | .str s => .str (sig s)
  | .tup xs => .tuple (D.pys xs)
def D.pys : List D → List PyData
  | [] => []
  | x :: xs => D.py x :: D.pys xs
end
theorem sig_inj {a b : List Nat} : (sig a == sig b) = (a == b) := by
  by_cases h : a = b
  · subst h; simp
  · rw [show (a == b) = false by simpa using h]
    refine beq_eq_false_iff_ne.mpr fun e => h ?_
    have : a.toArray = b.toArray := congrArg PySem.Str.cps e
    simpa using this
mutual
theorem D.eqv_py : ∀ x y : D, PyData.eqv x.py y.py = D.eqv x y
  | .non, y => by cases y <;> rfl
  | .bl _, y => by cases y <;> rfl
  | .int _, y => by cases y <;> rfl
  | .str a, y => by
    cases y <;> first | rfl | skip
    exact sig_inj
  | .tup xs, y => by
    cases y <;> first | rfl | skip
    rename_i ys
    exact D.eqvs_py xs ys
theorem D.eqvs_py : ∀ xs ys : List D, PyData.eqvAll (D.pys xs) (D.pys ys) = D.eqvs xs ys
  | [], ys => by cases ys <;> rfl
  | x :: xs, ys => by
    cases ys with
    | nil => rfl
    | cons y ys => simp only [D.pys, PyData.eqvAll, D.eqvs, D.eqv_py x y, D.eqvs_py xs ys]
end
mutual
theorem D.py_depth : ∀ x : D, x.py.depth = x.depth
  | .non => rfl
  | .bl _ => rfl
  | .int _ => rfl
  | .str _ => rfl
  | .tup xs => by show PyData.depthAll (D.pys xs) + 1 = D.depths xs + 1; rw [D.pys_depth xs]
theorem D.pys_depth : ∀ xs : List D, PyData.depthAll (D.pys xs) = D.depths xs
  | [] => rfl
  | x :: xs => by show max x.py.depth (PyData.depthAll (D.pys xs)) = max x.depth (D.depths xs); rw [D.py_depth x, D.pys_depth xs]
end
mutual
theorem RepD.dp {K : PySem.W.Frag} {H : Hp} : ∀ {x : D} {v : V}, RepD K H x v → Dp K H v x.py ∧ x.py.canLay0 = true
  | _, _, .non => ⟨.non, rfl⟩
  | _, _, .bl b => ⟨.bl b, rfl⟩
  | _, _, .int i => ⟨.int i, rfl⟩
  | _, _, .str s h => ⟨.str (sig s), by show PyData.strOk (sig s) = true; unfold PyData.strOk; simpa using h⟩
  | _, _, .tup h r => ⟨.tup h (RepDs.dp r).1, (RepDs.dp r).2⟩
theorem RepDs.dp {K : PySem.W.Frag} {H : Hp} : ∀ {x : List D} {v : List V}, RepDs K H x v → DpAll K H v (D.pys x) ∧ PyData.canLayAll0 (D.pys x) = true
  | _, _, .nil => ⟨.nil, rfl⟩
  | _, _, .cons h r => ⟨.cons (RepD.dp h).1 (RepDs.dp r).1, by show (PyData.canLay0 _ && PyData.canLayAll0 _) = true; rw [(RepD.dp h).2, (RepDs.dp r).2]; rfl⟩
end
def rEqD2 (K : PySem.W.Frag) : R2 := fun x y H Q => ∃ d e, Dp K H x d ∧ Dp K H y e ∧ d.canLay0 = true ∧ e.canLay0 = true ∧ min d.depth e.depth ≤ 64 ∧ Q (.bl (PyData.eqv d e)) H
def rNeD2 (K : PySem.W.Frag) : R2 := fun x y H Q => ∃ d e, Dp K H x d ∧ Dp K H y e ∧ d.canLay0 = true ∧ e.canLay0 = true ∧ min d.depth e.depth ≤ 64 ∧ Q (.bl (!PyData.eqv d e)) H
theorem op_eqD2 {X : Cx} (hu : X.A.units + 64 < cLine) : OpR X (compareOp .Eq) (rEqD2 X.K) := by
  intro pins s σ H x y v u Q I rx ry h
  obtain ⟨d, e, hd, he, sd, se, m, q⟩ := h
  obtain ⟨as, r1⟩ := Dp.reads I d x v hd rx
  obtain ⟨bs, r2⟩ := Dp.reads I e y u he ry
  exact SeqAt.compareEq_reads r1 r2 sd se (by omega) ⟨.bl _, H, I, rfl, q⟩
theorem op_neD2 {X : Cx} (hu : X.A.units + 64 < cLine) : OpR X (compareOp .NotEq) (rNeD2 X.K) := by
  intro pins s σ H x y v u Q I rx ry h
  obtain ⟨d, e, hd, he, sd, se, m, q⟩ := h
  obtain ⟨as, r1⟩ := Dp.reads I d x v hd rx
  obtain ⟨bs, r2⟩ := Dp.reads I e y u he ry
  exact SeqAt.compareNe_reads r1 r2 sd se (by omega) ⟨.bl _, H, I, rfl, q⟩
/-- what == looks at -/
def pyOf (p : Bool × D) : PyData := match p with
  | (true, .tup xs) => .list (D.pys xs)
  | (_, x) => x.py
theorem datR_of {P : Pr} {K : PySem.W.Frag} {μ : List Addr} {s : S} {σ : L2.St} {H : Hp} {x : R} {v : V} {p : Bool × D} (I : Sim P K μ s σ H) (h : RepR P K μ s σ H x v) (e : datR s x = some p) : Dp K H v (pyOf p) ∧ (pyOf p).canLay0 = true ∧ (pyOf p).depth = p.2.depth ∧ (p.1 = true → ∃ xs, p.2 = .tup xs) := by
  have viaO : ∀ {x : R}, RepR P K μ s σ H x v → (match objR s x with
      | some (.lst ws) => match alld ws with
        | some xs => some (true, D.tup xs)
        | none => none
      | _ => none) = some p → Dp K H v (pyOf p) ∧ (pyOf p).canLay0 = true ∧ (pyOf p).depth = p.2.depth ∧ (p.1 = true → ∃ xs, p.2 = .tup xs) := fun {x} h e => by
    cases q : objR s x with
    | none => rw [q] at e; cases e
    | some o =>
      rw [q] at e
      cases o with
      | dct _ _ => cases e
      | ins _ _ => cases e
      | lst ws =>
        simp only at e
        cases q2 : alld ws with
        | none => rw [q2] at e; cases e
        | some xs =>
          rw [q2] at e
          cases e
          obtain ⟨a, rfl, ⟨vs, e2, rs⟩, _⟩ := I.obj h q
          exact ⟨.lst (.inl (.inl e2)) (RepDs_of rs q2).dp.1, (RepDs_of rs q2).dp.2, by show PyData.depthAll (D.pys xs) + 1 = D.depths xs + 1; rw [D.pys_depth xs], fun _ => ⟨xs, rfl⟩⟩
  cases x with
  | new o => exact viaO h e
  | slot i => exact viaO h e
  | w x =>
    cases x with
    | ref j => exact viaO h e
    | tup ws' => exact viaO h e
    | scr ws' => exact viaO h e
    | d x =>
      cases (show some (false, x) = some p from e)
      cases (show SimW K μ H (.d x) v from h) with
      | d r => exact ⟨r.dp.1, r.dp.2, D.py_depth x, fun z => nomatch z⟩
theorem eqB_py {a b : Bool × D} (ha : a.1 = true → ∃ xs, a.2 = .tup xs) (hb : b.1 = true → ∃ xs, b.2 = .tup xs) : PyData.eqv (pyOf a) (pyOf b) = eqB a b := by
  obtain ⟨k, x⟩ := a
  obtain ⟨l, y⟩ := b
  unfold eqB
  cases k with
  | false =>
    cases l with
    | false =>
      show PyData.eqv x.py y.py = ((false == false) && D.eqv x y)
      rw [D.eqv_py]; simp
    | true =>
      obtain ⟨ys, e⟩ := hb rfl
      simp only at e
      subst e
      show PyData.eqv x.py (.list (D.pys ys)) = false
      cases x <;> rfl
  | true =>
    obtain ⟨xs, e⟩ := ha rfl
    simp only at e
    subst e
    cases l with
    | false =>
      show PyData.eqv (.list (D.pys xs)) y.py = false
      cases y <;> rfl
    | true =>
      obtain ⟨ys, e⟩ := hb rfl
      simp only at e
      subst e
      show PyData.eqvAll (D.pys xs) (D.pys ys) = ((true == true) && D.eqvs xs ys)
      rw [D.eqvs_py]; simp
theorem eq_S {P : Pr} {K : PySem.W.Frag} : OpS P K (rEqD2 K) eqV := fun μ s σ H x y v1 v2 r Q I h1 h2 e h => by
  unfold eqV at e
  split at e <;> first | (cases e; done) | skip
  rename_i a b q1 q2
  split at e <;> cases e
  rename_i hm
  obtain ⟨d1, s1, m1, t1⟩ := datR_of I h1 q1
  obtain ⟨d2, s2, m2, t2⟩ := datR_of I h2 q2
  refine ⟨_, _, d1, d2, s1, s2, by rw [m1, m2]; exact hm, ?_⟩
  rw [eqB_py t1 t2]
  exact h μ H _ (.refl I) rep_bR trivial
theorem ne_S {P : Pr} {K : PySem.W.Frag} : OpS P K (rNeD2 K) neV := fun μ s σ H x y v1 v2 r Q I h1 h2 e h => by
  unfold neV at e
  split at e <;> first | (cases e; done) | skip
  rename_i a b q1 q2
  split at e <;> cases e
  rename_i hm
  obtain ⟨d1, s1, m1, t1⟩ := datR_of I h1 q1
  obtain ⟨d2, s2, m2, t2⟩ := datR_of I h2 q2
  refine ⟨_, _, d1, d2, s1, s2, by rw [m1, m2]; exact hm, ?_⟩
  rw [eqB_py t1 t2]
  exact h μ H _ (.refl I) rep_bR trivial
end Mn

end
section
set_option Elab.async false
set_option linter.all false
set_option maxRecDepth 100000
set_option maxHeartbeats 4000000
/-! MnRule2: tests, in, subscripts, slices, built-in calls. -/
namespace Mn
open PySem PySem.Spec PyProof.Rows L2
section
variable {P : Pr} {K : PySem.W.Frag} {μ : List Addr} {s : S} {σ : L2.St} {H : Hp}
/-! ### truth -/
theorem emp_len {α β : Type} {xs : List α} {ys : List β} (h : xs.length = ys.length) : xs.isEmpty = ys.isEmpty := by
  cases xs <;> cases ys <;> simp at h ⊢
theorem tru_S (I : Sim P K μ s σ H) {r : R} {v : V} {b : Bool} (h : RepR P K μ s σ H r v) (e : tru s r = some b) : TruV K v H b := by
  have viaO : ∀ {r : R}, RepR P K μ s σ H r v → (match objR s r with
      | some (.lst ws) => some (!ws.isEmpty)
      | some (.dct false kvs) => some (!kvs.isEmpty)
      | _ => none) = some b → TruV K v H b := fun {r} h e => by
    cases q : objR s r with
    | none => rw [q] at e; cases e
    | some o =>
      rw [q] at e
      obtain ⟨a, rfl, so, _⟩ := I.obj h q
      cases o with
      | ins _ _ => cases e
      | lst ws =>
        cases e
        obtain ⟨vs, e2, rs⟩ := so
        exact .inl ⟨vs, .inl (.inl e2), by rw [emp_len (SimWs_len rs)]⟩
      | dct z kvs =>
        cases z with
        | true => cases e
        | false =>
          cases e
          obtain ⟨vs, e2, rs⟩ := so
          exact .inr (.inr ⟨vs, e2, by rw [emp_len (Paired.length rs)]⟩)
  have seqT : ∀ {w : W} {ws : List W}, SimW K μ H w v → w.items = some ws → (!ws.isEmpty) = b → TruV K v H b := fun {w ws} h e z => by
    obtain ⟨a, vs, rfl, h1, h2⟩ := SimW_items h e
    exact .inr (.inl ⟨vs, h1, by rw [← z, emp_len (SimWs_len h2)]⟩)
  cases r with
  | new o => exact viaO h e
  | slot i => exact viaO h e
  | w x =>
    cases x with
    | ref j => exact viaO h e
    | scr j => exact viaO h e
    | tup a => exact seqT (w := .tup a) h rfl (Option.some.inj e)
    | d x =>
      cases x with
      | non =>
        cases (show SimW K μ H _ v from h) with
        | d q => cases q; cases e; rfl
      | bl k => rw [rep_bl h]; cases e; rfl
      | int i => rw [rep_int h]; cases e; rfl
      | str a =>
        obtain ⟨e1, _⟩ := rep_str h
        rw [e1]
        have e : (if a.length ≤ LN then some (!a.isEmpty) else none) = some b := e
        by_cases hl : a.length ≤ LN
        · rw [if_pos hl] at e
          cases e
          refine ⟨by rw [sig_len, ← LN_eq]; exact hl, ?_⟩
          rw [sig_len]
          cases a with
          | nil => rfl
          | cons x r =>
            show true = !(((r.length + 1 : Nat) : Int) == 0)
            have : (((r.length + 1 : Nat) : Int) == 0) = false := beq_eq_false_iff_ne.mpr (by omega)
            rw [this]; rfl
        · rw [if_neg hl] at e; cases e
      | tup a => exact seqT (w := .d (.tup a)) h rfl (by rw [← Option.some.inj e]; simp)
end
section
variable {X : Cx} {P : Pr} {Wx : WX} {pos : Pos} {a b c e : PySem.Expr} {ca cb cc : Ex} {es rest : List PySem.Expr} {f g : S → R → R → Option R} {rr rr' : R2} {ta tb : Tm}
theorem s_one {op} (h : PE X a (tE P X.K Wx ca)) : PE X (.BoolOp op [a] pos) (tE P X.K Wx ca) := pe_one h
theorem s_and (ha : PE X a (tE P X.K Wx ca)) (hb : PE X (.BoolOp .And (b :: rest) pos) (tE P X.K Wx cb)) : PE X (.BoolOp .And (a :: b :: rest) pos) (tE P X.K Wx (andE ca cb)) := PE_imp (pe_andT ha hb) fun σ H Q h => by
  obtain ⟨μ, s, I, h⟩ := h
  refine ⟨μ, s, I, (Pst.bind h).mono fun r s1 μ1 H1 A h v rv fv => ?_⟩
  cases q : tru s1 r with
  | none => rw [q] at h; exact h.elim
  | some k =>
    rw [q] at h
    refine ⟨k, tru_S A.sim rv q, ?_⟩
    cases k with
    | true => exact ⟨μ1, s1, A.sim, (h.from A).mono fun r2 s2 μ2 H2 B h2 v2 r2 f2 => h2 v2 r2 (f2.back A.step.live)⟩
    | false => exact h μ1 H1 A v rv fv
theorem s_or (ha : PE X a (tE P X.K Wx ca)) (hb : PE X (.BoolOp .Or (b :: rest) pos) (tE P X.K Wx cb)) : PE X (.BoolOp .Or (a :: b :: rest) pos) (tE P X.K Wx (orE ca cb)) := PE_imp (pe_orT ha hb) fun σ H Q h => by
  obtain ⟨μ, s, I, h⟩ := h
  refine ⟨μ, s, I, (Pst.bind h).mono fun r s1 μ1 H1 A h v rv fv => ?_⟩
  cases q : tru s1 r with
  | none => rw [q] at h; exact h.elim
  | some k =>
    rw [q] at h
    refine ⟨k, tru_S A.sim rv q, ?_⟩
    cases k with
    | true => exact h μ1 H1 A v rv fv
    | false => exact ⟨μ1, s1, A.sim, (h.from A).mono fun r2 s2 μ2 H2 B h2 v2 r2 f2 => h2 v2 r2 (f2.back A.step.live)⟩
theorem s_not (ha : PE X a (tE P X.K Wx ca)) : PE X (.UnaryOp .Not a pos) (tE P X.K Wx (op1 notV ca)) := PE_imp (pe_notT ha) fun σ H Q h => by
  obtain ⟨μ, s, I, h⟩ := h
  refine ⟨μ, s, I, (Pst.bind h).mono fun r s1 μ1 H1 A h v rv fv => ?_⟩
  unfold notV at h
  cases q : tru s1 r with
  | none => rw [q] at h; exact h.elim
  | some k =>
    rw [q] at h
    exact ⟨k, tru_S A.sim rv q, h μ1 H1 A _ rep_bR trivial⟩
theorem s_neg (ha : PE X a (tE P X.K Wx ca)) : PE X (.UnaryOp .USub a pos) (tE P X.K Wx (op1 negV ca)) := PE_imp (pe_un un_neg ha) fun σ H Q h => by
  obtain ⟨μ, s, I, h⟩ := h
  refine ⟨μ, s, I, (Pst.bind h).mono fun r s1 μ1 H1 A h v rv fv => ?_⟩
  cases q : negV s1 r with
  | none => rw [q] at h; exact h.elim
  | some k =>
    rw [q] at h
    unfold negV at q
    split at q <;> cases q
    rw [rep_int rv]
    exact ⟨_, rfl, h μ1 H1 A _ rep_iR trivial⟩
/-! ### tests -/
theorem t_tr (ha : PE X a (tE P X.K Wx ca)) (he : ∀ whole, isTrue a X.env whole = (do let v ← whole; standAt a.pos; holding [v] (truthy v)) := by intro _; rfl) : PT X a (tT P X.K Wx (tst ca)) := PT_imp (pt_truth ha he) fun σ H Q h => by
  obtain ⟨μ, s, I, h⟩ := h
  refine ⟨μ, s, I, (Pst.bind h).mono fun r s1 μ1 H1 A h v rv fv => ?_⟩
  cases q : tru s1 r with
  | none => rw [q] at h; exact h.elim
  | some k => rw [q] at h; exact ⟨k, tru_S A.sim rv q, h μ1 H1 A⟩
/-- results that are True or False -/
def Bo (f : S → R → R → Option R) : Prop := ∀ s x y r, f s x y = some r → ∃ k, r = bR k
theorem tst_bool {K : PySem.W.Frag} {c : Ex} {σ : L2.St} {H : Hp} {Q : Bool → Hp → Prop} (hb : ∀ s r s', c s = .ok r s' → ∃ k, r = bR k) (h : tT P K Wx (tst c) σ H Q) : tE P K Wx c σ H fun x H' => ∃ k, x = .bl k ∧ Q k H' := by
  obtain ⟨μ, s, I, h⟩ := h
  refine ⟨μ, s, I, ?_⟩
  have h2 := Pst.bind h
  cases q : c s with
  | ok r s1 =>
    rw [q] at h2
    intro μ1 H1 A v rv fv
    obtain ⟨k, rfl⟩ := hb s r s1 q
    exact ⟨k, rep_bl rv, h2 μ1 H1 A μ1 H1 A⟩
  | exc c xs s1 => rw [q] at h2; exact h2
  | bad => rw [q] at h2; exact h2
theorem op2_bool (hb : Bo f) : ∀ s r s', op2 f ca cb s = .ok r s' → ∃ k, r = bR k := fun s r s' h => by
  unfold op2 at h
  cases q : ca s with
  | ok x s1 =>
    rw [q] at h
    simp only [Res.bind_ok] at h
    cases q2 : cb s1 with
    | ok y s2 =>
      rw [q2] at h
      simp only [Res.bind_ok] at h
      cases q3 : f s2 x y with
      | none => rw [q3] at h; cases h
      | some r' => rw [q3] at h; cases h; exact hb _ _ _ _ q3
    | exc _ _ _ => rw [q2] at h; cases h
    | bad => rw [q2] at h; cases h
  | exc _ _ _ => rw [q] at h; cases h
  | bad => rw [q] at h; cases h
theorem t_cmp {op : CmpOp} (ho : OpR X (compareOp op) rr) (hf : OpS P X.K rr f) (hb : Bo f) (ha : PE X a (tE P X.K Wx ca)) (hc : PE X b (tE P X.K Wx cb)) (hm : behindInMarks op b = false) : PT X (.Compare a [op] [b] pos) (tT P X.K Wx (tst (op2 f ca cb))) :=
  PT_imp (pt_cmpR ho ha hc hm) fun _ _ _ h => tOp_of hf (tst_bool (op2_bool hb) h)
theorem bo_cmpI {p : Int → Int → Bool} : Bo (cmpI p) := fun s x y r e => by
  unfold cmpI at e; split at e <;> cases e; exact ⟨_, rfl⟩
theorem bo_is : Bo isV := fun s x y r e => by
  unfold isV at e; split at e <;> cases e; exact ⟨_, rfl⟩
theorem bo_isnt : Bo isntV := fun s x y r e => by
  unfold isntV at e; split at e <;> cases e; exact ⟨_, rfl⟩
theorem bo_eq : Bo eqV := fun s x y r e => by
  unfold eqV at e; split at e <;> first | (cases e; done) | skip
  split at e <;> cases e; exact ⟨_, rfl⟩
theorem bo_ne : Bo neV := fun s x y r e => by
  unfold neV at e; split at e <;> first | (cases e; done) | skip
  split at e <;> cases e; exact ⟨_, rfl⟩
theorem bo_in {n : Bool} : Bo (inV n) := fun s x y r e => by
  unfold inV at e
  split at e <;> first | (cases e; done) | skip
  obtain ⟨b, _, rfl⟩ := Option.map_eq_some_iff.mp e
  exact ⟨_, rfl⟩
theorem w_and1 (h : PT X a (tT P X.K Wx ta)) : PW X (.BoolOp .And [a] pos) (tT P X.K Wx ta) := pw_and1 h
theorem w_or1 (h : PT X a (tT P X.K Wx ta)) : PW X (.BoolOp .Or [a] pos) (tT P X.K Wx ta) := pw_or1 h
theorem w_and (h : PT X a (tT P X.K Wx ta)) (h2 : PW X (.BoolOp .And (b :: rest) pos) (tT P X.K Wx tb)) : PW X (.BoolOp .And (a :: b :: rest) pos) (tT P X.K Wx (andT ta tb)) := PW_imp (pw_and h h2) fun σ H Q h => by
  obtain ⟨μ, s, I, h⟩ := h
  refine ⟨μ, s, I, (Pst.bind h).mono fun r s1 μ1 H1 A h => ?_⟩
  cases r with
  | true => exact ⟨μ1, s1, A.sim, h.from A⟩
  | false => exact h μ1 H1 A
theorem w_or (h : PT X a (tT P X.K Wx ta)) (h2 : PW X (.BoolOp .Or (b :: rest) pos) (tT P X.K Wx tb)) : PW X (.BoolOp .Or (a :: b :: rest) pos) (tT P X.K Wx (orT ta tb)) := PW_imp (pw_or h h2) fun σ H Q h => by
  obtain ⟨μ, s, I, h⟩ := h
  refine ⟨μ, s, I, (Pst.bind h).mono fun r s1 μ1 H1 A h => ?_⟩
  cases r with
  | true => exact h μ1 H1 A
  | false => exact ⟨μ1, s1, A.sim, h.from A⟩
theorem t_not (h : PT X a (tT P X.K Wx ta)) : PT X (.UnaryOp .Not a pos) (tT P X.K Wx (notT ta)) := PT_imp (pt_not h) fun σ H Q h => by
  obtain ⟨μ, s, I, h⟩ := h
  exact ⟨μ, s, I, (Pst.bind h).mono fun r s1 μ1 H1 A h => h μ1 H1 A⟩
theorem s_ite (ht : PT X c (tT P X.K Wx ta)) (ha : PE X a (tE P X.K Wx ca)) (hb : PE X b (tE P X.K Wx cb)) : PE X (.IfExp c a b pos) (tE P X.K Wx (iteE ta ca cb)) := PE_imp (pe_ifExp ht ha hb) fun σ H Q h => by
  obtain ⟨μ, s, I, h⟩ := h
  refine ⟨μ, s, I, (Pst.bind h).mono fun r s1 μ1 H1 A h => ?_⟩
  cases r with
  | true => exact ⟨μ1, s1, A.sim, (h.from A).mono fun r2 s2 μ2 H2 B h2 v2 r2 f2 => h2 v2 r2 (f2.back A.step.live)⟩
  | false => exact ⟨μ1, s1, A.sim, (h.from A).mono fun r2 s2 μ2 H2 B h2 v2 r2 f2 => h2 v2 r2 (f2.back A.step.live)⟩
/-- a < b < c -/
theorem tCh_of {K : PySem.W.Frag} (hf : OpS P K rr f) (hg : OpS P K rr' g) (hb : Bo f) {σ : L2.St} {H : Hp} {Q : VK} (h : tE P K Wx (chE f g ca cb cc) σ H Q) : tChain rr rr' (tE P K Wx ca) (tE P K Wx cb) (tE P K Wx cc) σ H Q := by
  obtain ⟨μ, s, I, h⟩ := h
  refine ⟨μ, s, I, (Pst.bind h).mono fun x s1 μ1 H1 A h v1 r1 f1 => ?_⟩
  refine ⟨μ1, s1, A.sim, ((Pst.bind h).from A).mono fun y s2 μ2 H2 B h v2 r2 f2 => ?_⟩
  have AB := A.trans B
  have r1' := r1.aft A.sim B
  cases q : f s2 x y with
  | none => rw [q] at h; exact h.elim
  | some r =>
    obtain ⟨k, rfl⟩ := hb _ _ _ _ q
    rw [q] at h
    refine hf μ2 s2 σ H2 x y v1 v2 _ _ B.sim r1' r2 q fun μ3 H3 v C r3 f3 => ⟨k, rep_bl r3, ?_⟩
    have ABC := AB.trans C
    cases k with
    | false => exact h μ3 H3 ABC _ rep_bR trivial
    | true =>
      refine ⟨μ3, s2, C.sim, ((Pst.bind h).from ABC).mono fun z s4 μ4 H4 E h v4 r4 f4 => ?_⟩
      have r2' := (r2.aft B.sim C).aft C.sim E
      cases q2 : g s4 y z with
      | none => rw [q2] at h; exact h.elim
      | some r' =>
        rw [q2] at h
        exact hg μ4 s4 σ H4 y z v2 v4 r' Q E.sim r2' r4 q2 fun μ' H' v F r5 f5 => h μ' H' ((ABC.trans E).trans F) v r5 (f5.back (ABC.trans E).step.live)
theorem s_chain {op op' : CmpOp} (ho : OpR X (compareOp op) rr) (ho' : OpR X (compareOp op') rr') (hf : OpS P X.K rr f) (hg : OpS P X.K rr' g) (hb : Bo f) (ha : PE X a (tE P X.K Wx ca)) (hb' : PE X b (tE P X.K Wx cb)) (hc : PE X c (tE P X.K Wx cc))
    (hm : lastMarks [op, op'] [b, c] = false := by with_unfolding_all rfl) : PE X (.Compare a [op, op'] [b, c] pos) (tE P X.K Wx (chE f g ca cb cc)) := PE_imp (pe_chain ho ho' ha hb' hc hm) fun _ _ _ h => tCh_of hf hg hb h
end
section
variable {P : Pr} {K : PySem.W.Frag} {μ : List Addr} {s : S} {σ : L2.St} {H : Hp}
/-! ### in -/
theorem flat_of {x : D} {v : V} (h : RepD K H x v) (f : x.flat = true) : flatV v = true := by
  cases h <;> first | rfl | cases f
theorem eqV_of {x y : D} {u v : V} (hx : RepD K H x u) (hy : RepD K H y v) (fx : x.flat = true) (fy : y.flat = true) : L2.eqV u v = D.eqv x y := by
  cases hx <;> cases hy <;> first | rfl | (cases fx; done) | (cases fy; done) | exact sig_inj
theorem flats_of : ∀ {xs : List D} {vs : List V}, RepDs K H xs vs → xs.all D.flat = true → vs.all flatV = true
  | _, _, .nil, _ => rfl
  | _, _, .cons h t, f => by
    simp only [List.all_cons, Bool.and_eq_true] at f ⊢
    exact ⟨flat_of h f.1, flats_of t f.2⟩
theorem inV_of {x : D} {u : V} (hx : RepD K H x u) (fx : x.flat = true) : ∀ {xs : List D} {vs : List V}, RepDs K H xs vs → xs.all D.flat = true → L2.inV u vs = inB x xs
  | _, _, .nil, _ => rfl
  | _, _, .cons h t, f => by
    simp only [List.all_cons, Bool.and_eq_true] at f
    show (L2.eqV _ u || L2.inV u _) = (D.eqv _ x || inB x _)
    rw [eqV_of h hx f.1 fx, inV_of hx fx t f.2]
theorem inSeq_of {x : D} {u : V} {ws : List W} {vs : List V} {b : Bool} (hx : RepD K H x u) (rs : SimWs K μ H ws vs) (e : inSeq x ws = some b) : flatV u = true ∧ vs.all flatV = true ∧ L2.inV u vs = b := by
  unfold inSeq at e
  cases q : alld ws with
  | none => rw [q] at e; cases e
  | some ys =>
    rw [q] at e
    simp only at e
    split at e <;> cases e
    rename_i hf
    simp only [Bool.and_eq_true] at hf
    have r := RepDs_of rs q
    exact ⟨flat_of hx hf.1, flats_of r hf.2, inV_of hx hf.1 r hf.2⟩
theorem keyD_kV {x : D} {v : V} {k : Key} (h : RepD K H x v) (e : keyD x = some k) : v = kV k := by
  cases h <;> first | (cases e; done) | skip
  · cases e; rfl
  · cases e; rfl
theorem keyD_some {x : D} (h : x.isKey = true) : ∃ k, keyD x = some k := by
  cases x <;> first | (cases h; done) | exact ⟨_, rfl⟩
theorem keyD_inj {x y : D} {k l : Key} (hx : keyD x = some k) (hy : keyD y = some l) : k = l ↔ x = y := by
  cases x <;> first | (cases hx; done) | skip
  all_goals
    cases hx
    cases y <;> first | (cases hy; done) | skip
    all_goals
      cases hy
      constructor
      · intro e
        first
          | (have e1 := Sum.inl.inj e; rw [e1])
          | (have e1 := Sum.inr.inj e
             have : (_ : List Nat).toArray = (_ : List Nat).toArray := congrArg PySem.Str.cps e1
             simpa using this)
          | cases e
      · intro e
        first
          | (cases e; rfl)
          | cases e
theorem valV_of {k : D} {kk : Key} (hk : keyD k = some kk) : ∀ {kvs : List (D × W)} {ps : List (Key × V)}, SimK K μ H kvs ps → (∀ w, look kvs k = some w → ∃ v, valV ps kk = some v ∧ SimW K μ H w v) ∧ (look kvs k = none → valV ps kk = none)
  | _, _, .nil => ⟨fun _ h => (nomatch h), fun _ => rfl⟩
  | (x, w0) :: r, (l, v0) :: ps, .cons h t => by
    obtain ⟨h1, h2⟩ := h
    have ih := valV_of hk t
    by_cases e : x = k
    · have e1 : l = kk := (keyD_inj h1 hk).mpr e
      refine ⟨fun w hw => ⟨v0, valV_pos e1, ?_⟩, fun hw => ?_⟩
      · have hw : (if x = k then some w0 else look r k) = some w := hw
        rw [if_pos e] at hw
        cases hw
        exact h2.1
      · have hw : (if x = k then some w0 else look r k) = none := hw
        rw [if_pos e] at hw
        cases hw
    · have e1 : ¬ l = kk := fun z => e ((keyD_inj h1 hk).mp z)
      have e2 : look ((x, w0) :: r) k = look r k := by show (if x = k then some w0 else look r k) = _; rw [if_neg e]
      have e3 : valV ((l, v0) :: ps) kk = valV ps kk := valV_neg e1
      rw [e2, e3]
      exact ih
theorem anyK_of {k : D} {kk : Key} (hk : keyD k = some kk) {kvs : List (D × W)} {ps : List (Key × V)} (h : SimK K μ H kvs ps) : (valV ps kk).isSome = kvs.any fun q => decide (q.1 = k) := by
  rw [← valV_any]
  induction h with
  | nil => rfl
  | @cons p q l1 l2 h t ih =>
    simp only [List.any_cons, ih]
    congr 1
    by_cases e : p.1 = k
    · rw [decide_eq_true e, decide_eq_true ((keyD_inj h.1 hk).mpr e)]
    · rw [decide_eq_false e, decide_eq_false fun z => e ((keyD_inj h.1 hk).mp z)]
def rIn2 (K : PySem.W.Frag) (neg : Bool) : R2 := fun x y H Q => rIn K neg x y H Q ∨ ∃ (c : Nat) (z : PySem.Str), x = .str ⟨#[c]⟩ ∧ y = .str z ∧ Q (.bl (if neg then !decide (c ∈ z.cps.toList) else decide (c ∈ z.cps.toList))) H
theorem op_in2 {X : Cx} : OpR X (compareOp .In) (rIn2 X.K false) := op_in_seq.or op_in_sign
theorem op_notin2 {X : Cx} : OpR X (compareOp .NotIn) (rIn2 X.K true) := op_notIn_seq.or op_notIn_sign
end
section
variable {X : Cx} {P : Pr} {Wx : WX} {pos : Pos} {a b c e : PySem.Expr} {ca cb cc : Ex}
/-- an operator whose rule holds where no dict stands at the right -/
theorem tOp_at {K : PySem.W.Frag} {rr : R2} {f : S → R → R → Option R} {σ : L2.St} {H : Hp} {Q : VK} {μ : List Addr} {s : S} (I : Sim P K μ s σ H) (h : Pst P K Wx μ s σ H (op2 f ca cb s) fun r s' μ' H' => ∀ v, RepR P K μ' s' σ H' r v → Frs H r v → Q v H')
    (hf : ∀ x s1 y s2, ca s = .ok x s1 → cb s1 = .ok y s2 → ∀ (μ : List Addr) (σ : L2.St) (H : Hp) (v1 v2 : V) (r : R) (Q : VK), Sim P K μ s2 σ H → RepR P K μ s2 σ H x v1 → RepR P K μ s2 σ H y v2 → f s2 x y = some r →
      (∀ μ' H' v, Aft P K μ s2 σ H μ' s2 H' → RepR P K μ' s2 σ H' r v → Frs H r v → Q v H') → rr v1 v2 H Q) : tOp rr (tE P K Wx ca) (tE P K Wx cb) σ H Q := by
  refine ⟨μ, s, I, ?_⟩
  have h1 := Pst.bind h
  cases q1 : ca s with
  | bad => rw [q1] at h1; exact h1
  | exc c xs s1 => rw [q1] at h1; exact h1
  | ok x s1 =>
    rw [q1] at h1
    intro μ1 H1 A v1 r1 f1
    have h : Pst P K Wx μ s σ H ((cb s1).bind fun y s2 => match f s2 x y with
        | some r => Res.ok r s2
        | none => .bad) _ := h1 μ1 H1 A
    refine ⟨μ1, s1, A.sim, ?_⟩
    have h2 := (Pst.bind h).from A
    cases q2 : cb s1 with
    | bad => rw [q2] at h2; exact h2
    | exc c xs s2 => rw [q2] at h2; exact h2
    | ok y s2 =>
      rw [q2] at h2
      intro μ2 H2 B v2 r2 f2
      have h : Pst P K Wx μ s σ H (match f s2 x y with
        | some r => Res.ok r s2
        | none => .bad) _ := h2 μ2 H2 B
      cases q : f s2 x y with
      | none => rw [q] at h; exact h.elim
      | some r =>
        rw [q] at h
        exact hf x s1 y s2 q1 q2 μ2 σ H2 v1 v2 r Q B.sim (r1.aft A.sim B) r2 q fun μ' H' v C r3 f3 => h μ' H' ((A.trans B).trans C) v r3 (f3.back (A.trans B).step.live)
def dictRight (ca cb : Ex) (s : S) : Prop := ∃ x s1 y s2 z kvs, ca s = .ok x s1 ∧ cb s1 = .ok y s2 ∧ objR s2 y = some (.dct z kvs)
/-- the address of a dict, as it may be read -/
theorem Sim.dict {K : PySem.W.Frag} {μ : List Addr} {s : S} {σ : L2.St} {H : Hp} (I : Sim P K μ s σ H) {r : R} {v : V} {z : Bool} {kvs : List (D × W)} (h : RepR P K μ s σ H r v) (e : objR s r = some (.dct z kvs)) :
    ∃ d ps, v = .ref d ∧ Rd H d (.dK ps) ∧ SimK K μ H kvs ps := by
  obtain ⟨d, rfl, so, _⟩ := I.obj h e
  cases z with
  | false => obtain ⟨ps, e2, rs⟩ := so; exact ⟨d, ps, rfl, .inl e2, rs⟩
  | true => obtain ⟨ps, o, e2, rs⟩ := so; exact ⟨d, ps, rfl, .inr ⟨o, e2⟩, rs⟩
theorem tIn_of {K : PySem.W.Frag} {neg : Bool} {σ : L2.St} {H : Hp} {Q : VK} (h : tE P K Wx (op2 (inV neg) ca cb) σ H Q) :
    tOp (rIn2 K neg) (tE P K Wx ca) (tE P K Wx cb) σ H Q ∨ (tE P K Wx ca) σ H fun y H1 => (tE P K Wx cb) σ H1 fun x H2 => ∃ a o, x = .ref a ∧ DGet H2 a y o ∧ Q (.bl (if neg then !o.isSome else o.isSome)) H2 := by
  obtain ⟨μ, s, I, h⟩ := h
  by_cases hd : dictRight ca cb s
  · obtain ⟨x, s1, y, s2, z, kvs, e1, e2, e3⟩ := hd
    right
    refine ⟨μ, s, I, ?_⟩
    have h1 := Pst.bind h
    rw [e1] at h1 ⊢
    intro μ1 H1 A v1 r1 f1
    refine ⟨μ1, s1, A.sim, ?_⟩
    have h : Pst P K Wx μ s σ H ((cb s1).bind fun y s2 => match inV neg s2 x y with
        | some r => Res.ok r s2
        | none => .bad) _ := h1 μ1 H1 A
    have h2 := (Pst.bind h).from A
    rw [e2] at h2 ⊢
    intro μ2 H2 B v2 r2 f2
    have h : Pst P K Wx μ s σ H (match inV neg s2 x y with
        | some r => Res.ok r s2
        | none => .bad) _ := h2 μ2 H2 B
    obtain ⟨d, ps, rfl, rd, rs⟩ := B.sim.dict r2 e3
    have fin : ∀ {x0 : D}, x = .w (.d x0) → inV neg s2 x y = (if x0.isKey then some (kvs.any fun q => decide (q.1 = x0)) else none).map fun b => bR (if neg then !b else b) := fun {x0} e => by
      subst e
      unfold inV inD
      simp only [e3]
    cases x with
    | new o => exact h.elim
    | slot i => exact h.elim
    | w x =>
      cases x with
      | ref _ => exact h.elim
      | tup _ => exact h.elim
      | scr _ => exact h.elim
      | d x0 =>
        rw [fin rfl] at h
        by_cases hk : x0.isKey = true
        · rw [if_pos hk] at h
          obtain ⟨k, ek⟩ := keyD_some hk
          have r1' := r1.aft A.sim B
          have ev : v1 = kV k := by
            cases (show SimW K μ2 H2 (.d x0) v1 from r1') with
            | d q => exact keyD_kV q ek
          refine ⟨d, valV ps k, rfl, .inl ⟨ps, k, rd, ev, rfl⟩, ?_⟩
          rw [anyK_of ek rs]
          exact h μ2 H2 (A.trans B) _ rep_bR trivial
        · rw [if_neg hk] at h; exact h.elim
  · left
    refine tOp_at I h fun x s1 y s2 e1 e2 μ σ H v1 v2 r Q I h1 h2 e hq => ?_
    have nd : ∀ z kvs, objR s2 y ≠ some (.dct z kvs) := fun z kvs q => hd ⟨x, s1, y, s2, z, kvs, e1, e2, q⟩
    cases x with
    | new o => cases e
    | slot i => cases e
    | w x =>
      cases x with
      | ref _ => cases e
      | tup _ => cases e
      | scr _ => cases e
      | d x0 =>
        cases (show SimW K μ H (.d x0) v1 from h1) with
        | d rx =>
        obtain ⟨b, eb, rfl⟩ := Option.map_eq_some_iff.mp (show (inD s2 x0 y).map (fun b => bR (if neg then !b else b)) = some r from e)
        have eb : inRest s2 x0 y = some b := by
          unfold inD at eb
          cases q : objR s2 y with
          | none => rw [q] at eb; exact eb
          | some o =>
            cases o with
            | dct z kvs => exact absurd q (nd z kvs)
            | lst ws => rw [q] at eb; exact eb
            | ins c fs => rw [q] at eb; exact eb
        unfold inRest at eb
        cases q : seqR s2 y with
        | some p =>
          obtain ⟨k, ws⟩ := p
          rw [q] at eb
          obtain ⟨p, vs, rfl, rs, hp⟩ := I.seq h2 q
          obtain ⟨f1, f2, f3⟩ := inSeq_of rx rs eb
          refine .inl ⟨p, vs, rfl, ?_, f1, f2, ?_⟩
          · cases k with
            | true => exact .inl (.inl (.inl hp))
            | false => exact .inr hp
          · rw [f3]
            exact hq μ H _ (.refl I) rep_bR trivial
        | none =>
          rw [q] at eb
          have eb : signIn x0 y = some b := eb
          unfold signIn at eb
          split at eb <;> first | (cases eb; done) | skip
          cases eb
          obtain ⟨e2, _⟩ := rep_str h2
          cases rx
          refine .inr ⟨_, _, rfl, e2, ?_⟩
          exact hq μ H _ (.refl I) rep_bR trivial
theorem s_in (hu : X.A.units + 1 < cLine) (ha : PE X a (tE P X.K Wx ca)) (hb : PE X b (tE P X.K Wx cb)) (hm : behindInMarks .In b = false) : PE X (.Compare a [.In] [b] pos) (tE P X.K Wx (op2 (inV false) ca cb)) :=
  PE_imp (PE_or (pe_cmpR op_in2 ha hb hm) (pe_cmp (pc_din hu ha hb) hm)) fun _ _ _ h => tIn_of h
theorem s_notin (hu : X.A.units + 1 < cLine) (ha : PE X a (tE P X.K Wx ca)) (hb : PE X b (tE P X.K Wx cb)) (hm : behindInMarks .NotIn b = false) : PE X (.Compare a [.NotIn] [b] pos) (tE P X.K Wx (op2 (inV true) ca cb)) :=
  PE_imp (PE_or (pe_cmpR op_notin2 ha hb hm) (pe_cmp (pc_dnotin hu ha hb) hm)) fun _ _ _ h => tIn_of h
theorem PT_or {X : Cx} {e : PySem.Expr} {t t' : TT} (h : PT X e t) (h' : PT X e t') : PT X e fun σ H Q => t σ H Q ∨ t' σ H Q := ⟨fun pins s σ H Q I q => q.elim (h.run pins s σ H Q I) (h'.run pins s σ H Q I)⟩
theorem t_in (hu : X.A.units + 1 < cLine) (ha : PE X a (tE P X.K Wx ca)) (hb : PE X b (tE P X.K Wx cb)) (hm : behindInMarks .In b = false) : PT X (.Compare a [.In] [b] pos) (tT P X.K Wx (tst (op2 (inV false) ca cb))) :=
  PT_imp (PT_or (pt_cmpR op_in2 ha hb hm) (pt_cmp (pc_din hu ha hb) hm)) fun _ _ _ h => tIn_of (tst_bool (op2_bool bo_in) h)
theorem t_notin (hu : X.A.units + 1 < cLine) (ha : PE X a (tE P X.K Wx ca)) (hb : PE X b (tE P X.K Wx cb)) (hm : behindInMarks .NotIn b = false) : PT X (.Compare a [.NotIn] [b] pos) (tT P X.K Wx (tst (op2 (inV true) ca cb))) :=
  PT_imp (PT_or (pt_cmpR op_notin2 ha hb hm) (pt_cmp (pc_dnotin hu ha hb) hm)) fun _ _ _ h => tIn_of (tst_bool (op2_bool bo_in) h)
end
end Mn

end
section
set_option Elab.async false
set_option linter.all false
set_option maxRecDepth 100000
set_option maxHeartbeats 4000000
/-! MnRule3: subscripts, slices, built-in calls, isinstance, methods of lists. -/
namespace Mn
open PySem PySem.Spec PyProof.Rows L2
section
variable {P : Pr} {K : PySem.W.Frag} {μ : List Addr} {s : S} {σ : L2.St} {H : Hp}
theorem ixN_eq (n : Nat) (i : Int) : Mn.ixN n i = L2.ixN n i := rfl
theorem atI_eq {α : Type} (xs : List α) (i : Int) : Mn.atI xs i = L2.atI xs i := by
  unfold Mn.atI L2.atI
  rw [ixN_eq]
  cases L2.ixN xs.length i <;> rfl
theorem SimWs_get : ∀ {ws : List W} {vs : List V} {j : Nat} {w : W}, SimWs K μ H ws vs → ws[j]? = some w → ∃ v, vs[j]? = some v ∧ SimW K μ H w v
  | _, _, _, _, .nil, e => by simp at e
  | _, _, 0, _, .cons h _, e => by simp at e; subst e; exact ⟨_, rfl, h⟩
  | _, _, j + 1, _, .cons _ t, e => by
    obtain ⟨v, e1, h⟩ := SimWs_get (j := j) t (by simpa using e)
    exact ⟨v, by simpa using e1, h⟩
theorem SimWs_at {ws : List W} {vs : List V} {i : Int} {w : W} (h : SimWs K μ H ws vs) (e : Mn.atI ws i = some w) : ∃ v, L2.atI vs i = some v ∧ SimW K μ H w v := by
  rw [atI_eq] at e
  unfold L2.atI at e ⊢
  rw [← SimWs_len h]
  cases q : L2.ixN ws.length i with
  | none => rw [q] at e; cases e
  | some j => rw [q] at e; exact SimWs_get h e
theorem atI_map {α β : Type} (f : α → β) (xs : List α) (i : Int) : Mn.atI (xs.map f) i = (Mn.atI xs i).map f := by
  unfold Mn.atI
  rw [List.length_map]
  cases Mn.ixN xs.length i with
  | none => rfl
  | some j => simp
theorem ixSeq_S (I : Sim P K μ s σ H) {x : R} {i : Int} {v1 : V} {r : R} {Q : VK} (h1 : RepR P K μ s σ H x v1) (e : ixSeq s x i = some r)
    (h : ∀ μ' H' v, Aft P K μ s σ H μ' s H' → RepR P K μ' s σ H' r v → Frs H r v → Q v H') : rIx K v1 (.int i) H Q := by
  have general : ∀ {x : R} {ws : List W} {k : Bool} {w : W}, RepR P K μ s σ H x v1 → seqR s x = some (k, ws) → Mn.atI ws i = some w → r = .w w → rIx K v1 (.int i) H Q := fun {x ws k w} h1 q e1 er => by
    subst er
    obtain ⟨a, vs, rfl, rs, ha⟩ := I.seq h1 q
    obtain ⟨v, e2, rv⟩ := SimWs_at rs e1
    have fin := h μ H v (.refl I) rv trivial
    cases k with
    | true => exact .inl ⟨a, vs, i, v, rfl, rfl, .inl (.inl ha), e2, fin⟩
    | false => exact .inr (.inl ⟨a, vs, i, v, rfl, rfl, ha, e2, fin⟩)
  unfold ixSeq at e
  split at e
  · rename_i xs
    obtain ⟨d, e1, e2⟩ := Option.map_eq_some_iff.mp e
    exact general (x := .w (.d (.tup xs))) (ws := xs.map W.d) h1 rfl (by rw [atI_map, e1]; rfl) e2.symm
  · rename_i a
    split at e <;> first | (cases e; done) | skip
    rename_i hl
    obtain ⟨c, e1, e2⟩ := Option.map_eq_some_iff.mp e
    subst e2
    obtain ⟨e3, ok⟩ := rep_str h1
    subst e3
    refine .inr (.inr ⟨sig a, i, c, rfl, rfl, by rw [sig_len, ← LN_eq]; exact hl, ?_, ?_⟩)
    · rw [← atI_eq]; exact e1
    · refine h μ H _ (.refl I) (SimW.d (.str [c] fun d hd => ?_)) trivial
      simp only [List.mem_singleton] at hd
      subst hd
      unfold Mn.atI at e1
      split at e1 <;> first | (cases e1; done) | skip
      exact ok _ (List.mem_of_getElem? e1)
  · rename_i ns
    obtain ⟨n, e1, e2⟩ := Option.map_eq_some_iff.mp e
    subst e2
    cases (show SimW K μ H (.scr ns) v1 from h1) with
    | @scr a _ fz =>
      refine .inl ⟨a, _, i, .int n, rfl, rfl, fz.sq, ?_, h μ H _ (.refl I) rep_iR trivial⟩
      rw [← atI_eq, atI_map, e1]
      rfl
  · cases q : seqR s x with
    | none => rw [q] at e; cases e
    | some p =>
      rw [q] at e
      obtain ⟨w, e1, e2⟩ := Option.map_eq_some_iff.mp e
      exact general h1 (k := p.1) (ws := p.2) q e1 e2.symm
/-! ### slices -/
theorem sIx_eq (n d : Nat) (o : Option Int) : Mn.sIx n d o = HT.sIx n d o := rfl
theorem SimWs.drop : ∀ {ws : List W} {vs : List V} (n : Nat), SimWs K μ H ws vs → SimWs K μ H (ws.drop n) (vs.drop n)
  | _, _, 0, h => h
  | _, _, _ + 1, .nil => .nil
  | _, _, n + 1, .cons _ t => SimWs.drop n t
theorem SimWs.take : ∀ {ws : List W} {vs : List V} (n : Nat), SimWs K μ H ws vs → SimWs K μ H (ws.take n) (vs.take n)
  | _, _, 0, _ => .nil
  | _, _, _ + 1, .nil => .nil
  | _, _, n + 1, .cons h t => .cons h (SimWs.take n t)
theorem SimWs.cut {ws : List W} {vs : List V} (h : SimWs K μ H ws vs) (lo hi : Option Int) : SimWs K μ H (Mn.cut ws lo hi) (cutV vs lo hi) := by
  unfold Mn.cut cutV
  rw [SimWs_len h]
  exact (h.drop _).take _
theorem cut_map {α β : Type} (f : α → β) (xs : List α) (lo hi : Option Int) : Mn.cut (xs.map f) lo hi = (Mn.cut xs lo hi).map f := by
  unfold Mn.cut
  rw [List.length_map, ← List.map_drop, ← List.map_take]
def rSl3 (K : PySem.W.Frag) : V → Option Int → Option Int → Hp → VK → Prop := fun x lo hi H Q => rSlL K x lo hi H Q ∨ rSlA K x lo hi H Q ∨ rSlS x lo hi H Q
theorem sl_3 {X : Cx} : SlR X (rSl3 X.K) := sl_list.or (sl_tupA.or sl_str)
theorem cut_whole {α : Type} (xs : List α) (lo hi : Option Int) (h1 : Mn.sIx xs.length 0 lo = 0) (h2 : Mn.sIx xs.length xs.length hi = xs.length) : Mn.cut xs lo hi = xs := by
  unfold Mn.cut
  rw [h1, h2]
  simp
theorem slV_S (I : Sim P K μ s σ H) {x : R} {lo hi : Option Int} {v1 : V} {r : R} {Q : VK} (h1 : RepR P K μ s σ H x v1) (e : slV s x lo hi = some r)
    (h : ∀ μ' H' v, Aft P K μ s σ H μ' s H' → RepR P K μ' s σ H' r v → Frs H r v → Q v H') : rSl3 K v1 lo hi H Q := by
  unfold slV at e
  split at e
  · rename_i xs
    cases e
    obtain ⟨a, vs, rfl, rs, ha⟩ := I.seq (r := .w (.d (.tup xs))) h1 rfl
    have hl : xs.length = vs.length := by simpa using SimWs_len rs
    refine .inr (.inl ⟨a, vs, rfl, ha, fun z => ?_, fun z p hp => ?_⟩)
    · refine h μ H _ (.refl I) ?_ trivial
      rw [cut_whole xs lo hi (by rw [hl]; exact z.1) (by rw [hl]; exact z.2)]
      exact h1
    · obtain ⟨A, r3⟩ := newTup I (rs.cut lo hi) hp
      rw [cut_map, mkTup_map] at r3
      exact h μ _ _ A r3 trivial
  · rename_i a
    split at e <;> cases e
    rename_i hl
    obtain ⟨e3, ok⟩ := rep_str h1
    subst e3
    refine .inr (.inr ⟨sig a, rfl, by rw [sig_len, ← LN_eq]; exact hl, ?_⟩)
    have ec : cutS (sig a) lo hi = sig (Mn.cut a lo hi) := by
      unfold cutS Mn.cut
      simp [PySem.Str.length, sIx_eq]
    rw [ec]
    refine h μ H _ (.refl I) (SimW.d (.str _ fun c hc => ok c ?_)) trivial
    unfold Mn.cut at hc
    exact List.mem_of_mem_drop (List.mem_of_mem_take hc)
  · rename_i ns
    cases e
    cases (show SimW K μ H (.scr ns) v1 from h1) with
    | @scr a _ fz =>
      refine .inl ⟨a, _, rfl, fz.sq, fun p hp => ?_⟩
      have rr : SimWs K μ H ((Mn.cut ns lo hi).map fun i => W.d (.int i)) (cutV (ns.map V.int) lo hi) := by
        have key : ∀ l : List Int, SimWs K μ H (l.map fun i => W.d (.int i)) (l.map V.int) := fun l => by
          induction l with
          | nil => exact .nil
          | cons i l ih => exact .cons (.d (.int _)) ih
        have := (key ns).cut lo hi
        rw [cut_map] at this
        exact this
      obtain ⟨A, r3⟩ := newLst I rr hp
      exact h μ _ _ A r3 hp
  · cases q : objR s x with
    | none => rw [q] at e; cases e
    | some o =>
      rw [q] at e
      cases o with
      | dct _ _ => cases e
      | ins _ _ => cases e
      | lst ws =>
        cases e
        obtain ⟨a, rfl, ⟨vs, e2, rs⟩, _⟩ := I.obj h1 q
        refine .inl ⟨a, vs, rfl, .inl (.inl e2), fun p hp => ?_⟩
        obtain ⟨A, r3⟩ := newLst I (rs.cut lo hi) hp
        exact h μ _ _ A r3 hp
end
def tO (P : Pr) (K : PySem.W.Frag) (Wx : WX) (c : S → Res (Option Int)) : TO := fun σ H Q => ∃ μ s, Sim P K μ s σ H ∧ Pst P K Wx μ s σ H (c s) fun o s' μ' H' => Q o H'
section
variable {X : Cx} {P : Pr} {Wx : WX} {pos p2 : Pos} {a b c e : PySem.Expr} {ca cb cc : Ex} {lo hi : Option PySem.Expr} {cl ch : S → Res (Option Int)}
theorem s_ix (hu : X.A.units + 1 < cLine) (ha : PE X a (tE P X.K Wx ca)) (hb : PE X b (tE P X.K Wx cb)) (hs : PlainIx b) : PE X (.Subscript a b pos) (tE P X.K Wx (op2 ixV ca cb)) := PE_imp (PE_or (pe_ix ix_seq ha hb hs) (pe_dget hu ha hb hs)) fun σ H Q h => by
  obtain ⟨μ, s, I, h⟩ := h
  by_cases hd : ∃ x s1 y s2 z kvs, ca s = .ok x s1 ∧ cb s1 = .ok y s2 ∧ objR s2 x = some (.dct z kvs)
  · obtain ⟨x, s1, y, s2, z, kvs, e1, e2, e3⟩ := hd
    right
    refine ⟨μ, s, I, ?_⟩
    have h1 := Pst.bind h
    rw [e1] at h1 ⊢
    intro μ1 H1 A v1 r1 f1
    refine ⟨μ1, s1, A.sim, ?_⟩
    have h : Pst P X.K Wx μ s σ H ((cb s1).bind fun y s2 => match ixV s2 x y with
        | some r => Res.ok r s2
        | none => .bad) _ := h1 μ1 H1 A
    have h2 := (Pst.bind h).from A
    rw [e2] at h2 ⊢
    intro μ2 H2 B v2 r2 f2
    have h : Pst P X.K Wx μ s σ H (match ixV s2 x y with
        | some r => Res.ok r s2
        | none => .bad) _ := h2 μ2 H2 B
    obtain ⟨d, ps, rfl, rd, rs⟩ := B.sim.dict (r1.aft A.sim B) e3
    cases y with
    | new o => exact h.elim
    | slot i => exact h.elim
    | w y =>
      cases y with
      | ref _ => exact h.elim
      | scr _ => exact h.elim
      | tup _ => exact h.elim
      | d k =>
        have eq : ixV s2 x (.w (.d k)) = if k.isKey then (look kvs k).map R.w else none := by
          unfold ixV
          simp only [e3]
        rw [eq] at h
        by_cases hk : k.isKey = true
        · rw [if_pos hk] at h
          obtain ⟨kk, ek⟩ := keyD_some hk
          have ev : v2 = kV kk := by
            cases (show SimW X.K μ2 H2 (.d k) v2 from r2) with
            | d q => exact keyD_kV q ek
          cases q : look kvs k with
          | none => rw [q] at h; exact h.elim
          | some w =>
            rw [q] at h
            obtain ⟨v, e5, rv⟩ := (valV_of ek rs).1 w q
            exact ⟨d, v, rfl, .inl ⟨ps, kk, rd, ev, e5.symm⟩, h μ2 H2 (A.trans B) v rv trivial⟩
        · rw [if_neg hk] at h; exact h.elim
  · left
    refine tOp_at I h fun x s1 y s2 e1 e2 μ σ H v1 v2 r Q I h1 h2 e hq => ?_
    have nd : ∀ z kvs, objR s2 x ≠ some (.dct z kvs) := fun z kvs q => hd ⟨x, s1, y, s2, z, kvs, e1, e2, q⟩
    cases y with
    | new o => cases e
    | slot i => cases e
    | w y =>
      cases y with
      | ref _ => cases e
      | scr _ => cases e
      | tup _ => cases e
      | d k =>
        obtain ⟨i, rfl, e5⟩ : ∃ i, k = .int i ∧ ixSeq s2 x i = some r := by
          unfold ixV at e
          cases q : objR s2 x with
          | none => simp only [q] at e; cases k <;> first | (cases e; done) | exact ⟨_, rfl, e⟩
          | some o =>
            cases o with
            | dct z kvs => exact absurd q (nd z kvs)
            | lst ws => simp only [q] at e; cases k <;> first | (cases e; done) | exact ⟨_, rfl, e⟩
            | ins c fs => simp only [q] at e; cases k <;> first | (cases e; done) | exact ⟨_, rfl, e⟩
        rw [rep_int h2]
        exact ixSeq_S I h1 e5 hq
theorem o_none : PO X none (tO P X.K Wx noO) := ⟨fun pins s σ H Q I h => po_none.run pins s σ H Q I (by
  obtain ⟨μ, s, I, h⟩ := h
  exact Pst.ok_self I h)⟩
theorem o_some (ha : PE X a (tE P X.K Wx ca)) : PO X (some a) (tO P X.K Wx (someO ca)) := ⟨fun pins s σ H Q I h => (po_some ha).run pins s σ H Q I (by
  obtain ⟨μ, s, I, h⟩ := h
  refine ⟨μ, s, I, (Pst.bind h).mono fun r s1 μ1 H1 A h v rv fv => ?_⟩
  cases r with
  | new o => exact h.elim
  | slot i => exact h.elim
  | w y =>
    cases y with
    | ref _ => exact h.elim
    | scr _ => exact h.elim
    | tup _ => exact h.elim
    | d k =>
      cases k <;> first | exact h.elim | skip
      rename_i i
      exact ⟨i, rep_int rv, h μ1 H1 A⟩)⟩
theorem s_sl (ha : PE X a (tE P X.K Wx ca)) (hl : PO X lo (tO P X.K Wx cl)) (hh : PO X hi (tO P X.K Wx ch)) : PE X (.Subscript a (.Slice lo hi none p2) pos) (tE P X.K Wx (slE ca cl ch)) := PE_imp (pe_slice sl_3 ha hl hh) fun σ H Q h => by
  obtain ⟨μ, s, I, h⟩ := h
  refine ⟨μ, s, I, (Pst.bind h).mono fun r s1 μ1 H1 A h v1 r1 f1 => ?_⟩
  refine ⟨μ1, s1, A.sim, ((Pst.bind h).from A).mono fun l s2 μ2 H2 B h => ?_⟩
  have AB := A.trans B
  refine ⟨μ2, s2, B.sim, ((Pst.bind h).from AB).mono fun u s3 μ3 H3 C h => ?_⟩
  have ABC := AB.trans C
  cases q : slV s3 r l u with
  | none => rw [q] at h; exact h.elim
  | some r' =>
    rw [q] at h
    exact slV_S C.sim ((r1.aft A.sim B).aft B.sim C) q fun μ' H' v D r5 f5 => h μ' H' (ABC.trans D) v r5 (f5.back ABC.step.live)

/-! ### built-in calls -/
theorem CallR_or {f : PySem.Value} {r r' : List V → Hp → VK → Prop} (h : CallR X f r) (h' : CallR X f r') : CallR X f fun vs H Q => r vs H Q ∨ r' vs H Q := by
  intro pins s σ H vs us Q I rv q
  rcases q with q | q
  · exact h pins s σ H vs us Q I rv q
  · exact h' pins s σ H vs us Q I rv q
def CallS (P : Pr) (K : PySem.W.Frag) (r : List V → Hp → VK → Prop) (f : S → R → Option R) : Prop := ∀ (μ : List Addr) (s : S) (σ : L2.St) (H : Hp) (x : R) (v : V) (rr : R) (Q : VK), Sim P K μ s σ H → RepR P K μ s σ H x v → f s x = some rr →
  (∀ μ' H' v, Aft P K μ s σ H μ' s H' → RepR P K μ' s σ H' rr v → Frs H rr v → Q v H') → r [v] H Q
theorem tC1_of {K : PySem.W.Frag} {r : List V → Hp → VK → Prop} {f : S → R → Option R} (hf : CallS P K r f) {σ : L2.St} {H : Hp} {Q : VK} (h : tE P K Wx (op1 f ca) σ H Q) : tE P K Wx ca σ H fun x H1 => r [x] H1 Q := by
  obtain ⟨μ, s, I, h⟩ := h
  refine ⟨μ, s, I, (Pst.bind h).mono fun x s1 μ1 H1 A h v1 r1 f1 => ?_⟩
  cases q : f s1 x with
  | none => rw [q] at h; exact h.elim
  | some rr =>
    rw [q] at h
    exact hf μ1 s1 σ H1 x v1 rr Q A.sim r1 q fun μ' H' v C r3 f3 => h μ' H' (A.trans C) v r3 (f3.back A.step.live)
variable {x : PySem.Str} {p pos' : Pos} {id T : String} {r : List V → Hp → VK → Prop} {f : S → R → Option R}
theorem s_callB (hc : CallR X (.builtin id) r) (hr : CallS P X.K r f) (hg : Gl X x) (hm : X.mg x = none) (hv : bootBuiltins x = some (.builtin id)) (ha : PE X a (tE P X.K Wx ca)) (hn : x ≠ "__name__" := by decide) (hdb : (x == ("__debug__" : PySem.Str)) = false := by decide)
    (he : starEach [a] X.env = (false, eval a X.env) :: starEach [] X.env := by rfl) : PE X (.Call (.Name x p) [a] [] pos) (tE P X.K Wx (op1 f ca)) :=
  PE_imp (pe_callB hc hg hm hv (pa_cons ha pa_nil he) hn hdb he rfl) fun _ _ _ h => tC1_of hr h
theorem s_callTy (hc : CallR X (.type T) r) (hr : CallS P X.K r f) (hg : Gl X x) (hm : X.mg x = none) (hv : bootBuiltins x = some (.type T)) (ha : PE X a (tE P X.K Wx ca)) (hn : x ≠ "__name__" := by decide) (hdb : (x == ("__debug__" : PySem.Str)) = false := by decide)
    (he : starEach [a] X.env = (false, eval a X.env) :: starEach [] X.env := by rfl) : PE X (.Call (.Name x p) [a] [] pos) (tE P X.K Wx (op1 f ca)) :=
  PE_imp (pe_callTy hc hg hm hv (pa_cons ha pa_nil he) hn hdb he rfl) fun _ _ _ h => tC1_of hr h
end
end Mn

end
section
set_option Elab.async false
set_option linter.all false
set_option maxRecDepth 100000
set_option maxHeartbeats 4000000
/-! MnRule4: built-in calls one by one, isinstance, methods of lists. -/
namespace Mn
open PySem PySem.Spec PyProof.Rows L2
section
variable {P : Pr} {K : PySem.W.Frag}
def rLenA (K : PySem.W.Frag) : List V → Hp → VK → Prop := fun xs H Q => (∃ x n, xs = [x] ∧ LenV K x H n ∧ Q (.int n) H) ∨ ∃ a kvs, xs = [V.ref a] ∧ H a = some (.dK kvs) ∧ Q (.int kvs.length) H
theorem cr_lenA {X : Cx} : CallR X (.builtin "len") (rLenA X.K) := CallR_or call_len call_lenD
theorem len_S : CallS P K (rLenA K) lenV := fun μ s σ H x v rr Q I h1 e h => by
  have general : ∀ {x : R}, RepR P K μ s σ H x v → (match seqR s x with
      | some (_, ws) => some (iR ws.length)
      | none => match objR s x with
        | some (.dct false kvs) => some (iR kvs.length)
        | _ => none) = some rr → rLenA K [v] H Q := fun {x} h1 e => by
    cases q : seqR s x with
    | some p =>
      obtain ⟨k, ws⟩ := p
      rw [q] at e
      cases e
      obtain ⟨a, vs, rfl, rs, ha⟩ := I.seq h1 q
      refine .inl ⟨_, vs.length, rfl, ?_, ?_⟩
      · cases k with
        | true => exact .inl ⟨vs, .inl (.inl ha), rfl⟩
        | false => exact .inr ⟨vs, ha, rfl⟩
      · rw [← SimWs_len rs]
        exact h μ H _ (.refl I) rep_iR trivial
    | none =>
      rw [q] at e
      simp only at e
      cases q2 : objR s x with
      | none => rw [q2] at e; cases e
      | some o =>
        rw [q2] at e
        cases o with
        | lst _ => cases e
        | ins _ _ => cases e
        | dct z kvs =>
          cases z with
          | true => cases e
          | false =>
            cases e
            obtain ⟨a, rfl, ⟨ps, e2, rs⟩, _⟩ := I.obj h1 q2
            refine .inr ⟨a, ps, rfl, e2, ?_⟩
            rw [← Paired.length rs]
            exact h μ H _ (.refl I) rep_iR trivial
  unfold lenV at e
  split at e
  · rename_i a
    split at e <;> cases e
    rename_i hl
    obtain ⟨e3, ok⟩ := rep_str h1
    subst e3
    refine .inl ⟨_, a.length, rfl, ⟨by rw [sig_len, ← LN_eq]; exact hl, by rw [sig_len]⟩, ?_⟩
    exact h μ H _ (.refl I) rep_iR trivial
  · rename_i ns
    cases e
    cases (show SimW K μ H (.scr ns) v from h1) with
    | @scr a _ fz =>
      refine .inl ⟨_, ns.length, rfl, .inl ⟨_, fz.sq, by simp⟩, ?_⟩
      exact h μ H _ (.refl I) rep_iR trivial
  · exact general h1 e
theorem int_S : CallS P K (fun xs H Q => (∃ i, xs = [.int i] ∧ Q (.int i) H) ∨ ∃ k, xs = [.bl k] ∧ Q (.int (if k then 1 else 0)) H) intV := fun μ s σ H x v rr Q I h1 e h => by
  unfold intV at e
  split at e <;> cases e
  · rw [rep_int h1]; exact .inl ⟨_, rfl, h μ H _ (.refl I) rep_iR trivial⟩
  · rw [rep_bl h1]; exact .inr ⟨_, rfl, h μ H _ (.refl I) rep_iR trivial⟩
theorem abs_S : CallS P K (fun xs H Q => ∃ i, xs = [.int i] ∧ Q (.int (if i < 0 then -i else i)) H) absV := fun μ s σ H x v rr Q I h1 e h => by
  unfold absV at e
  split at e <;> cases e
  rw [rep_int h1]; exact ⟨_, rfl, h μ H _ (.refl I) rep_iR trivial⟩
theorem list_S : CallS P K (fun xs H Q => ∃ p ys, xs = [.ref p] ∧ (SqL K H p ys ∨ SqT K H p ys) ∧ ∀ l, H l = none → Q (.ref l) (upd H l (.lst ys))) listV := fun μ s σ H x v rr Q I h1 e h => by
  unfold listV at e
  obtain ⟨p, e1, rfl⟩ := Option.map_eq_some_iff.mp e
  obtain ⟨k, ws⟩ := p
  obtain ⟨a, vs, rfl, rs, ha⟩ := I.seq h1 e1
  refine ⟨a, vs, rfl, ?_, fun l hl => ?_⟩
  · cases k with
    | true => exact .inl (.inl (.inl ha))
    | false => exact .inr ha
  · obtain ⟨A, r3⟩ := newLst I rs hl
    exact h μ _ _ A r3 hl
theorem tuple_S : CallS P K (fun xs H Q => ∃ p ys, xs = [.ref p] ∧ ((SqL K H p ys ∧ ∀ l, H l = none → Q (.ref l) (upd H l (.tup ys))) ∨ (SqT K H p ys ∧ Q (.ref p) H))) tupleV := fun μ s σ H x v rr Q I h1 e h => by
  unfold tupleV at e
  obtain ⟨p, e1, rfl⟩ := Option.map_eq_some_iff.mp e
  obtain ⟨k, ws⟩ := p
  obtain ⟨a, vs, rfl, rs, ha⟩ := I.seq h1 e1
  cases k with
  | true =>
    refine ⟨a, vs, rfl, .inl ⟨.inl (.inl ha), fun l hl => ?_⟩⟩
    obtain ⟨A, r3⟩ := newTup I rs hl
    exact h μ _ _ A r3 trivial
  | false => exact ⟨a, vs, rfl, .inr ⟨ha, h μ H _ (.refl I) (SimW_mkTup rs ha) trivial⟩⟩
theorem RepDs_bls {H : Hp} : ∀ {xs : List D} {bs : List Bool} {vs : List V}, RepDs K H xs vs → bls xs = some bs → vs = bs.map V.bl
  | _, _, _, .nil, e => by simp [bls] at e; subst e; rfl
  | _, bs, _, .cons h t, e => by
    cases h <;> simp only [bls] at e <;> first | (cases e; done) | skip
    obtain ⟨cs, e1, e2⟩ := Option.map_eq_some_iff.mp e
    subst e2
    rw [RepDs_bls t e1]
    rfl
theorem RepDs_intD {H : Hp} : ∀ {xs : List D} {bs : List Int} {vs : List V}, RepDs K H xs vs → intsD xs = some bs → vs = bs.map V.int
  | _, _, _, .nil, e => by simp [intsD] at e; subst e; rfl
  | _, bs, _, .cons h t, e => by
    cases h <;> simp only [intsD] at e <;> first | (cases e; done) | skip
    obtain ⟨cs, e1, e2⟩ := Option.map_eq_some_iff.mp e
    subst e2
    rw [RepDs_intD t e1]
    rfl
theorem lstL_of {μ : List Addr} {s : S} {σ : L2.St} {H : Hp} {x : R} {v : V} {xs : List D} (I : Sim P K μ s σ H) (h : RepR P K μ s σ H x v) (e : lstL s x = some xs) : ∃ a vs, v = .ref a ∧ H a = some (.lst vs) ∧ RepDs K H xs vs := by
  unfold lstL at e
  split at e <;> first | (cases e; done) | skip
  rename_i q
  obtain ⟨a, rfl, ⟨vs, e2, rs⟩, _⟩ := I.obj h q
  exact ⟨a, vs, rfl, e2, RepDs_of rs e⟩
theorem all_S : CallS P K (rAll K) allV := fun μ s σ H x v rr Q I h1 e h => by
  unfold allV at e
  obtain ⟨bs, e1, rfl⟩ := Option.map_eq_some_iff.mp e
  obtain ⟨xs, e2, e3⟩ := Option.bind_eq_some_iff.mp e1
  obtain ⟨a, vs, rfl, ha, rs⟩ := lstL_of I h1 e2
  exact ⟨a, bs, rfl, .inl (.inl (by rw [ha, RepDs_bls rs e3])), h μ H _ (.refl I) rep_bR trivial⟩
theorem any_S : CallS P K (rAny K) anyV := fun μ s σ H x v rr Q I h1 e h => by
  unfold anyV at e
  obtain ⟨bs, e1, rfl⟩ := Option.map_eq_some_iff.mp e
  obtain ⟨xs, e2, e3⟩ := Option.bind_eq_some_iff.mp e1
  obtain ⟨a, vs, rfl, ha, rs⟩ := lstL_of I h1 e2
  exact ⟨a, bs, rfl, .inl (.inl (by rw [ha, RepDs_bls rs e3])), h μ H _ (.refl I) rep_bR trivial⟩
theorem sum_S : CallS P K (rSum K) sumV := fun μ s σ H x v rr Q I h1 e h => by
  unfold sumV at e
  obtain ⟨bs, e1, rfl⟩ := Option.map_eq_some_iff.mp e
  obtain ⟨xs, e2, e3⟩ := Option.bind_eq_some_iff.mp e1
  obtain ⟨a, vs, rfl, ha, rs⟩ := lstL_of I h1 e2
  exact ⟨a, bs, rfl, .inl (.inl (by rw [ha, RepDs_intD rs e3])), h μ H _ (.refl I) rep_iR trivial⟩

/-! ### isinstance -/
def Ty.name : Ty → String
  | .non => "NoneType"
  | .bool => "bool"
  | .int => "int"
  | .str => "str"
  | .tup => "tuple"
  | .lst => "list"
  | .dct => "dict"
theorem kit_ty (t T : Ty) : PySem.W.kitOne K (.type t.name) (.type T.name) = some (isiB t T) := by
  cases t <;> cases T <;> rfl
theorem tyX_tup {H : Hp} {a : Addr} {vs : List V} (h : SqT K H a vs) : TyX K H (.ref a) (.type "tuple") := by
  rcases h with (h | ⟨o, h⟩) | ⟨o, its, n, h1, h2, _⟩
  · exact .base (.tup h)
  · exact .fTuple h
  · exact .kTuple h1 h2
theorem tyR_of {μ : List Addr} {s : S} {σ : L2.St} {H : Hp} {x : R} {v : V} {t : Ty} (I : Sim P K μ s σ H) (h : RepR P K μ s σ H x v) (e : tyR s x = some t) : TyX K H v (.type t.name) := by
  have viaO : ∀ {x : R}, RepR P K μ s σ H x v → (match objR s x with
      | some (.lst _) => some Ty.lst
      | some (.dct _ _) => some Ty.dct
      | _ => none) = some t → TyX K H v (.type t.name) := fun {x} h e => by
    cases q : objR s x with
    | none => rw [q] at e; cases e
    | some o =>
      rw [q] at e
      obtain ⟨a, rfl, so, _⟩ := I.obj h q
      cases o with
      | ins _ _ => cases e
      | lst ws => cases e; obtain ⟨vs, e2, rs⟩ := so; exact .base (.lst e2)
      | dct z kvs =>
        cases e
        cases z with
        | false => obtain ⟨vs, e2, rs⟩ := so; exact .base (.dK e2)
        | true => obtain ⟨vs, o, e2, rs⟩ := so; exact .fDict e2
  cases x with
  | new o => exact viaO h e
  | slot i => exact viaO h e
  | w x =>
    cases x with
    | ref j => exact viaO h e
    | scr j => exact viaO h e
    | tup a =>
      cases e
      obtain ⟨a, vs, rfl, h1, h2⟩ := SimW_items (w := .tup a) h rfl
      exact tyX_tup h1
    | d x =>
      cases x with
      | non =>
        cases (show SimW K μ H _ v from h) with
        | d q => cases q; cases e; exact .base .non
      | bl k => rw [rep_bl h]; cases e; exact .base (.bl _)
      | int i => rw [rep_int h]; cases e; exact .base (.int _)
      | str a =>
        obtain ⟨e1, _⟩ := rep_str h
        rw [e1]; cases e; exact .base (.str _)
      | tup a =>
        cases e
        obtain ⟨a, vs, rfl, h1, h2⟩ := SimW_items (w := .d (.tup a)) h rfl
        exact tyX_tup h1
end
section
variable {X : Cx} {P : Pr} {Wx : WX} {pos p p2 : Pos} {a b c e : PySem.Expr} {ca cb cc : Ex} {x : PySem.Str}
theorem s_isi {T : Ty} (hT : bootBuiltins x = some (.type T.name)) (hg : Gl X "isinstance") (hm : X.mg "isinstance" = none) (hgx : Gl X x) (hmx : X.mg x = none) (ha : PE X a (tE P X.K Wx ca)) (hn : x ≠ "__name__" := by decide) (hdb : (x == ("__debug__" : PySem.Str)) = false := by decide)
    (he : starEach [a, .Name x p2] X.env = (false, eval a X.env) :: starEach [.Name x p2] X.env := by rfl) : PE X (.Call (.Name "isinstance" p) [a, .Name x p2] [] pos) (tE P X.K Wx (op1 (isiV T) ca)) :=
  PE_imp (pe_callB call_isi hg hm (by decide +kernel) (pa_cons ha (pa_cons (pe_bltn (v := .ty T.name) hgx hmx hT rfl hn hdb) pa_nil rfl) he) (by decide) (by decide) he rfl) fun σ H Q h => by
  obtain ⟨μ, s, I, h⟩ := h
  refine ⟨μ, s, I, (Pst.bind h).mono fun r s1 μ1 H1 A h v rv fv => ?_⟩
  cases q : isiV T s1 r with
  | none => rw [q] at h; exact h.elim
  | some r' =>
    rw [q] at h
    unfold isiV at q
    obtain ⟨t, e1, rfl⟩ := Option.map_eq_some_iff.mp q
    exact ⟨v, .ty T.name, .type t.name, .type T.name, isiB t T, rfl, .ty _, tyR_of A.sim rv e1, kit_ty t T, h μ1 H1 A _ rep_bR trivial⟩
end
end Mn

end
section
set_option Elab.async false
set_option linter.all false
set_option maxRecDepth 100000
set_option maxHeartbeats 4000000
/-! MnRule5: methods of lists; statements; loops. -/
namespace Mn
open PySem PySem.Spec PyProof.Rows L2
section
variable {P : Pr} {K : PySem.W.Frag} {μ μ' : List Addr} {s s' : S} {σ : L2.St} {H H' : Hp}
theorem setO_getO {x : Src} {o : O} (I : Sim P K μ s σ H) (h : getO s x = some o) {a : Addr} (ha : AtS μ s σ x a) : SimO P K μ H o a := by
  obtain ⟨b, hb, q⟩ := I.getOk h
  rw [I.at_inj ha hb]
  exact q
/-- the place of a result is a place of the state -/
theorem Sim.locAt (I : Sim P K μ s σ H) {r : R} {v : V} {x : Src} {o : O} (h : RepR P K μ s σ H r v) (e : locR s r = some x) (g : getO s x = some o) : ∃ a, v = .ref a ∧ AtS μ s σ x a ∧ SimO P K μ H o a := by
  have eo : objR s r = some o := by
    cases r with
    | new o' => cases (show (none : Option Src) = some x from e)
    | w y => show (match locR s (.w y) with | some x => getO s x | none => none) = _; rw [e]; exact g
    | slot i => show (match locR s (.slot i) with | some x => getO s x | none => none) = _; rw [e]; exact g
  obtain ⟨a, e1, q, f⟩ := I.obj h eo
  exact ⟨a, e1, (f x e).1, q⟩
theorem SimWs.snoc {ws : List W} {vs : List V} {w : W} {v : V} (h : SimWs K μ H ws vs) (q : SimW K μ H w v) : SimWs K μ H (ws ++ [w]) (vs ++ [v]) := h.append (.cons q .nil)
theorem SimWs.dropLast : ∀ {ws : List W} {vs : List V}, SimWs K μ H ws vs → SimWs K μ H ws.dropLast vs.dropLast
  | _, _, .nil => .nil
  | _, _, .cons h .nil => .nil
  | _, _, .cons h (.cons h' t) => .cons h (SimWs.dropLast (.cons h' t))
theorem SimWs.erase : ∀ {ws : List W} {vs : List V} (i : Nat), SimWs K μ H ws vs → SimWs K μ H (ws.eraseIdx i) (vs.eraseIdx i)
  | _, _, _, .nil => .nil
  | _, _, 0, .cons _ t => t
  | _, _, i + 1, .cons h t => .cons h (SimWs.erase i t)
theorem SimWs.set {w : W} {v : V} (q : SimW K μ H w v) : ∀ {ws : List W} {vs : List V} (i : Nat), SimWs K μ H ws vs → SimWs K μ H (ws.set i w) (vs.set i v)
  | _, _, _, .nil => .nil
  | _, _, 0, .cons _ t => .cons q t
  | _, _, i + 1, .cons h t => .cons h (SimWs.set q i t)
end
/-- a method's end by values: the receiver, the arguments as they were reckoned from H₀ -/
def MethS (P : Pr) (K : PySem.W.Frag) (rm : V → List V → Hp → VK → Prop) (f : S → R → List R → Option (R × S)) : Prop := ∀ (μ₀ : List Addr) (s₀ : S) (H₀ : Hp) (μ : List Addr) (s : S) (σ : L2.St) (H : Hp) (o : R) (v : V) (rs : List R) (vs : List V) (x : R) (s' : S) (Q : VK),
  Aft P K μ₀ s₀ σ H₀ μ s H → RepR P K μ s σ H o v → RepRs P K μ s σ H rs vs → (∀ a ∈ newsOf rs vs, H₀ a = none) → (∀ a, isNew o v a → a ∉ newsOf rs vs) → f s o rs = some (x, s') →
  (∀ μ' H' v, Aft P K μ₀ s₀ σ H₀ μ' s' H' → RepR P K μ' s' σ H' x v → Frs H₀ x v → Q v H') → rm v vs H Q
section
variable {X : Cx} {P : Pr} {Wx : WX} {pos p p2 apos cpos : Pos} {a b c e o : PySem.Expr} {es : List PySem.Expr} {ca cb cc co : Ex} {ct : As} {name : PySem.Str} {id : String} {rm : V → List V → Hp → VK → Prop} {f : S → R → List R → Option (R × S)}
theorem tM_of {K : PySem.W.Frag} (hf : MethS P K rm f) {σ : L2.St} {H : Hp} {Q : VK} (h : tE P K Wx (meth f co ct) σ H Q) : tBM K "list" rm (tE P K Wx co) (tA P K Wx ct) σ H Q := by
  obtain ⟨μ, s, I, h⟩ := h
  refine ⟨μ, s, I, (Pst.bind h).mono fun r s1 μ1 H1 A h v rv fv => ?_⟩
  by_cases hl : isLst s1 r = true
  · rw [if_pos hl] at h
    refine ⟨?_, μ1, s1, A.sim, ((Pst.bind h).from A).mono fun rs s2 μ2 H2 B h vs rvs fvs => ?_⟩
    · unfold isLst at hl
      split at hl <;> first | (cases hl; done) | skip
      rename_i q
      obtain ⟨a, rfl, ⟨vs, e2, _⟩, _⟩ := A.sim.obj rv q
      exact .inl ⟨rfl, vs, .inl (.inl e2)⟩
    · cases q : f s2 r rs with
      | none => rw [q] at h; exact h.elim
      | some y =>
        obtain ⟨x, s3⟩ := y
        rw [q] at h
        refine hf μ s H μ2 s2 σ H2 r v rs vs x s3 Q (A.trans B) (rv.aft A.sim B) rvs (fun a ha => A.step.live a (fvs a ha)) (fun a hn hm => ?_) q (fun μ' H' v A r f => h μ' H' A v r f)
        obtain ⟨⟨o, rfl⟩, rfl⟩ := hn
        obtain ⟨b, e3, q3, _⟩ := rv
        cases e3
        exact q3.notup.2.2 (fvs _ hm)
  · rw [if_neg hl] at h; exact h.elim
theorem s_meth (slot : Slot "list" name id) (hty : typeOf (.builtin id) = pure (.type "method_descriptor")) (hm : MtR X id rm) (hf : MethS P X.K rm f) (ho : PE X o (tE P X.K Wx co)) (ha : PA X (e :: es) (tA P X.K Wx ct))
    (hbase : attributeBase o name X.env (eval o X.env) = eval o X.env := by rfl)
    (hfew : ((backTo cpos (starEach (e :: es) X.env)).all (fun x => !x.1) && (backToKw cpos (keywordEach [] X.env)).all (fun x => x.1.isSome)
      && decide ((e :: es).length + ([] : List Keyword).length + (if ([] : List Keyword).isEmpty then 0 else 1) < 30)) = true := by rfl)
    (hline : (apos.endLine == cpos.line) = true := by rfl) (hs : starEach (e :: es) X.env = (false, eval e X.env) :: starEach es X.env := by rfl) (hplain : (backTo cpos (starEach es X.env)).any (·.1) = false := by rfl) :
    PE X (.Call (.Attribute o name apos) (e :: es) [] cpos) (tE P X.K Wx (meth f co ct)) := PE_imp (pe_bm PySem.F.plainAttrs_list slot hty hm ho ha hbase hfew hline hs hplain) fun _ _ _ h => tM_of hf h
theorem s_meth0 (slot : Slot "list" name id) (hty : typeOf (.builtin id) = pure (.type "method_descriptor")) (hm : MtR X id rm) (hf : MethS P X.K rm f) (ho : PE X o (tE P X.K Wx co))
    (hbase : attributeBase o name X.env (eval o X.env) = eval o X.env := by rfl) (hline : (apos.endLine == cpos.line) = true := by rfl) : PE X (.Call (.Attribute o name apos) [] [] cpos) (tE P X.K Wx (meth f co asN)) :=
  PE_imp (pe_bm0 PySem.F.plainAttrs_list slot hty hm ho hbase hline) fun σ H Q h => by
  obtain ⟨μ, s, I, h⟩ := h
  refine ⟨μ, s, I, (Pst.bind h).mono fun r s1 μ1 H1 A h v rv fv => ?_⟩
  by_cases hl : isLst s1 r = true
  · rw [if_pos hl] at h
    refine ⟨?_, ?_⟩
    · unfold isLst at hl
      split at hl <;> first | (cases hl; done) | skip
      rename_i q
      obtain ⟨a, rfl, ⟨vs, e2, _⟩, _⟩ := A.sim.obj rv q
      exact .inl ⟨rfl, vs, .inl (.inl e2)⟩
    · have h : Pst P X.K Wx μ s σ H (match f s1 r [] with
        | some (x, s3) => Res.ok x s3
        | none => .bad) _ := h
      cases q : f s1 r [] with
      | none => rw [q] at h; exact h.elim
      | some y =>
        obtain ⟨x, s3⟩ := y
        rw [q] at h
        exact hf μ s H μ1 s1 σ H1 r v [] [] x s3 Q A rv .nil (by simp [newsOf]) (by simp [newsOf]) q (fun μ' H' v A r f => h μ' H' A v r f)
  · rw [if_neg hl] at h; exact h.elim
end
section
variable {P : Pr} {K : PySem.W.Frag}
/-- a list that stands somewhere is rewritten -/
theorem putList {μ₀ : List Addr} {s₀ : S} {H₀ : Hp} {μ : List Addr} {s : S} {σ : L2.St} {H : Hp} {x : Src} {ws ws' : List W} {vs' : List V} {a : Addr} (A : Aft P K μ₀ s₀ σ H₀ μ s H) (g : getO s x = some (.lst ws)) (ha : AtS μ s σ x a) (r : SimWs K μ H ws' vs') :
    Aft P K μ₀ s₀ σ H₀ μ (setO s x (.lst ws')) (upd H a (.lst vs')) := by
  have fa := ha.foot
  obtain ⟨n1, n2, n3⟩ := A.sim.notup fa
  refine A.trans (A.sim.write g (fun _ z => nomatch z) ha ⟨vs', upd_same, r.mono (tups_of (fun b xs q => ?_) fun b o xs e => by rw [upd_ne fun z => by subst z; exact A.sim.nofl fa o xs e]; exact e) (List.prefix_refl _)⟩)
  have hb : b ≠ a := fun z => by subst z; exact n1 xs q
  rcases q with q | ⟨w, q⟩
  · exact .inl (by rw [upd_ne hb]; exact q)
  · exact .inr ⟨w, by rw [upd_ne hb]; exact q⟩
theorem tups_upd {μ : List Addr} {s : S} {σ : L2.St} {H : Hp} {a : Addr} {u : HO} (I : Sim P K μ s σ H) (fa : foot μ s σ a) : Tups K H (upd H a u) := by
  obtain ⟨n1, n2, n3⟩ := I.notup fa
  refine tups_of (fun b xs q => ?_) fun b o xs e => by rw [upd_ne fun z => by subst z; exact I.nofl fa o xs e]; exact e
  have hb : b ≠ a := fun z => by subst z; exact n1 xs q
  rcases q with q | ⟨w, q⟩
  · exact .inl (by rw [upd_ne hb]; exact q)
  · exact .inr ⟨w, by rw [upd_ne hb]; exact q⟩
theorem append_M : MethS P K rAppend appendV := fun μ₀ s₀ H₀ μ s σ H o v rs vs x s' Q A rv rvs fvs nn e h => by
  unfold appendV at e
  split at e <;> first | (cases e; done) | skip
  rename_i r
  cases vs with
  | nil => cases rvs.all
  | cons y vs =>
    obtain ⟨r1, r2, _⟩ := rvs.uncons
    cases r2.all
    cases q : boxR r s with
    | none => rw [q] at e; cases e
    | some z =>
      obtain ⟨w, s1⟩ := z
      simp only [q] at e
      obtain ⟨μ1, B, sw⟩ := A.sim.box r1 q
      have A1 := B.aft A fun a ha => fvs a (by obtain ⟨⟨o, rfl⟩, rfl⟩ := ha; simp [newsOf])
      have rv1 : RepR P K μ1 s1 σ H o v := rv.bx B fun a hn ha => nn a hn (by obtain ⟨⟨o, rfl⟩, rfl⟩ := ha; simp [newsOf])
      cases q2 : locR s1 o with
      | none => simp only [q2] at e; cases e
      | some p =>
        simp only [q2] at e
        cases q3 : getO s1 p with
        | none => simp only [q3] at e; cases e
        | some ob =>
          simp only [q3] at e
          cases ob with
          | dct _ _ => cases e
          | ins _ _ => cases e
          | lst ws =>
            simp only at e
            split at e <;> cases e
            rename_i hl
            obtain ⟨a, rfl, ha, ⟨us, e2, rs⟩⟩ := A1.sim.locAt rv1 q2 q3
            refine ⟨a, us, y, rfl, rfl, e2, by rw [← SimWs_len rs, ← LN_eq]; exact hl, ?_⟩
            exact h μ1 _ _ (putList A1 q3 ha (rs.snoc sw)) (SimW.d .non) trivial
def rPop2 : V → List V → Hp → VK → Prop := fun x vs H Q => rPop x vs H Q ∨ rPopAt x vs H Q
theorem mt_pop2 {X : Cx} : MtR X "list.pop" rPop2 := MtR.or mt_pop mt_popAt
theorem SimWs_last {μ : List Addr} {H : Hp} {ws : List W} {vs : List V} {w : W} (h : SimWs K μ H ws vs) (e : ws.getLast? = some w) : ∃ v, vs[vs.length - 1]? = some v ∧ SimW K μ H w v := by
  rw [List.getLast?_eq_getElem?] at e
  rw [← SimWs_len h]
  exact SimWs_get h e
theorem pop_M : MethS P K rPop2 popV := fun μ₀ s₀ H₀ μ s σ H o v rs vs x s' Q A rv rvs fvs nn e h => by
  unfold popV at e
  split at e <;> first | (cases e; done) | skip
  · cases rvs.all
    cases q2 : locR s o with
    | none => simp only [q2] at e; cases e
    | some p =>
      simp only [q2] at e
      cases q3 : getO s p with
      | none => simp only [q3] at e; cases e
      | some ob =>
        simp only [q3] at e
        cases ob with
        | dct _ _ => cases e
        | ins _ _ => cases e
        | lst ws =>
          simp only at e
          cases q4 : ws.getLast? with
          | none => simp only [q4] at e; cases e
          | some w =>
            simp only [q4] at e
            cases e
            obtain ⟨a, rfl, ha, ⟨us, e2, rs⟩⟩ := A.sim.locAt rv q2 q3
            obtain ⟨v, e5, rw'⟩ := SimWs_last rs q4
            refine .inl ⟨a, us, v, rfl, rfl, e2, e5, ?_⟩
            exact h μ _ _ (putList A q3 ha rs.dropLast) (SimW.mono (tups_upd A.sim ha.foot) (List.prefix_refl _) rw') trivial
  · rename_i i
    cases vs with
    | nil => cases rvs.all
    | cons y vs =>
      obtain ⟨r1, r2, _⟩ := rvs.uncons
      cases r2.all
      cases rep_int r1
      cases q2 : locR s o with
      | none => simp only [q2] at e; cases e
      | some p =>
        simp only [q2] at e
        cases q3 : getO s p with
        | none => simp only [q3] at e; cases e
        | some ob =>
          simp only [q3] at e
          cases ob with
          | dct _ _ => cases e
          | ins _ _ => cases e
          | lst ws =>
            simp only at e
            split at e <;> first | (cases e; done) | skip
            rename_i hi
            cases q4 : Mn.ixN ws.length i with
            | none => simp only [q4] at e; cases e
            | some j =>
              simp only [q4] at e
              cases q5 : ws[j]? with
              | none => simp only [q5] at e; cases e
              | some w =>
                simp only [q5] at e
                cases e
                obtain ⟨a, rfl, ha, ⟨us, e2, rs⟩⟩ := A.sim.locAt rv q2 q3
                obtain ⟨v, e5, rw'⟩ := SimWs_get rs q5
                have hl := SimWs_len rs
                rw [ixN_eq, hl] at q4
                obtain ⟨h1, h2, h3, h4⟩ := ixN_seq q4
                refine .inr ⟨a, us, i, j, v, rfl, rfl, e2, hi.1, hi.2, h1, e5, ?_⟩
                · exact h μ _ _ (putList A q3 ha (rs.erase j)) (SimW.mono (tups_upd A.sim ha.foot) (List.prefix_refl _) rw') trivial
def rInsA : V → List V → Hp → VK → Prop := fun x vs H Q => ∃ (l : Addr) (xs : List V) (i : Int) (y : V), x = .ref l ∧ vs = [.int i, y] ∧ H l = some (.lst xs) ∧ xs.length < sizeLine ∧ 0 ≤ i ∧ i < 2 ^ 63 ∧
    Q .non (upd H l (.lst (xs.take i.toNat ++ [y] ++ xs.drop i.toNat)))
theorem mt_insA {X : Cx} : MtR X "list.insert" rInsA := mt_insert
theorem insert_M : MethS P K rInsA insertV := fun μ₀ s₀ H₀ μ s σ H o v rs vs x s' Q A rv rvs fvs nn e h => by
  unfold insertV at e
  split at e <;> first | (cases e; done) | skip
  rename_i i r
  match vs, rvs with
  | [], rvs => cases rvs.all
  | [_], rvs => cases rvs.uncons.2.1.all
  | y0 :: y :: vs, rvs =>
    obtain ⟨r0, r12, _⟩ := rvs.uncons
    obtain ⟨r1, r2, _⟩ := r12.uncons
    cases r2.all
    cases rep_int r0
    cases q : boxR r s with
    | none => rw [q] at e; cases e
    | some z =>
      obtain ⟨w, s1⟩ := z
      simp only [q] at e
      obtain ⟨μ1, B, sw⟩ := A.sim.box r1 q
      have A1 := B.aft A fun a ha => fvs a (by obtain ⟨⟨o, rfl⟩, rfl⟩ := ha; simp [newsOf])
      have rv1 : RepR P K μ1 s1 σ H o v := rv.bx B fun a hn ha => nn a hn (by obtain ⟨⟨o, rfl⟩, rfl⟩ := ha; simp [newsOf])
      cases q2 : locR s1 o with
      | none => simp only [q2] at e; cases e
      | some p =>
        simp only [q2] at e
        cases q3 : getO s1 p with
        | none => simp only [q3] at e; cases e
        | some ob =>
          simp only [q3] at e
          cases ob with
          | dct _ _ => cases e
          | ins _ _ => cases e
          | lst ws =>
            simp only at e
            split at e <;> cases e
            rename_i hl
            obtain ⟨a, rfl, ha, ⟨us, e2, rs⟩⟩ := A1.sim.locAt rv1 q2 q3
            refine ⟨a, us, i, y, rfl, rfl, e2, by rw [← SimWs_len rs, ← LN_eq]; exact hl.1, hl.2.1, hl.2.2, ?_⟩
            exact h μ1 _ _ (putList A1 q3 ha (((rs.take _).append (.cons sw .nil)).append (rs.drop _))) (SimW.d .non) trivial
end
/-! ### statements -/
def PstS (P : Pr) (K : PySem.W.Frag) (Wx : WX) (μ : List Addr) (s : S) (σ : L2.St) (H : Hp) (x : Out) (D : Ends) : Prop := match x with
  | .nx s' => ∀ μ' σ' H', AftS P K μ s σ H μ' s' σ' H' → D.nx σ' H'
  | .rt r s' => ∀ μ' σ' H' v, AftS P K μ s σ H μ' s' σ' H' → RepR P K μ' s' σ' H' r v → Frs H r v → D.rt v H'
  | .bk s' => ∀ μ' σ' H', AftS P K μ s σ H μ' s' σ' H' → D.bk σ' H'
  | .ct s' => ∀ μ' σ' H', AftS P K μ s σ H μ' s' σ' H' → D.ct σ' H'
  | .exc c xs s' => ∀ μ' σ' H' d, AftS P K μ s σ H μ' s' σ' H' → ExcAt P K μ' s' σ' H' xs d → Wx (.ref (P.ca c)) (some d) σ' H'
  | .bad => False
def tS (P : Pr) (K : PySem.W.Frag) (Wx : WX) (c : Mn.St) : TS := fun D σ H => ∃ μ s, Sim P K μ s σ H ∧ PstS P K Wx μ s σ H (c s) D
section
variable {P : Pr} {K : PySem.W.Frag} {Wx : WX} {μ μ' : List Addr} {s s' : S} {σ σ' : L2.St} {H H' : Hp} {α : Type}
theorem AftS.refl (I : Sim P K μ s σ H) : AftS P K μ s σ H μ s σ H := (Aft.refl I).toS
theorem Frs.backS {r : R} {v : V} (A : AftS P K μ s σ H μ' s' σ' H') (h : Frs H' r v) : Frs H r v := h.back A.step.live
theorem PstS.from {x : Out} {D : Ends} (A : AftS P K μ s σ H μ' s' σ' H') (h : PstS P K Wx μ s σ H x D) : PstS P K Wx μ' s' σ' H' x D := by
  cases x with
  | nx s' => exact fun μ2 σ2 H2 B => h μ2 σ2 H2 (A.trans B)
  | rt r s' => exact fun μ2 σ2 H2 v B r1 f => h μ2 σ2 H2 v (A.trans B) r1 (f.backS A)
  | bk s' => exact fun μ2 σ2 H2 B => h μ2 σ2 H2 (A.trans B)
  | ct s' => exact fun μ2 σ2 H2 B => h μ2 σ2 H2 (A.trans B)
  | exc c xs s' => exact fun μ2 σ2 H2 d B => h μ2 σ2 H2 d (A.trans B)
  | bad => exact h
/-- .. the base stays -/
theorem PstS.res' {x : Res α} {k : α → S → Out} {D : Ends} (A : AftS P K μ s σ H μ' s' σ' H') (h : PstS P K Wx μ s σ H (ofRes x k) D) : Pst P K Wx μ' s' σ' H' x fun a s1 μ1 H1 => PstS P K Wx μ s σ H (k a s1) D := by
  cases x with
  | ok a s1 => exact fun _ _ _ => h
  | exc c xs s1 => exact fun μ2 H2 d B e => h μ2 σ' H2 d (A.trans B.toS) e
  | bad => exact h
theorem PstS.res {x : Res α} {k : α → S → Out} {D : Ends} (h : PstS P K Wx μ s σ H (ofRes x k) D) : Pst P K Wx μ s σ H x fun a s1 μ1 H1 => PstS P K Wx μ s σ H (k a s1) D := by
  cases x with
  | ok a s1 => exact fun _ _ _ => h
  | exc c xs s1 => exact fun μ' H' d A e => h μ' σ H' d A.toS e
  | bad => exact h
end
section
variable {X : Cx} {P : Pr} {Wx : WX} {pos pos' p p2 : Pos} {a b c e o : PySem.Expr} {ca cb cc co : Ex} {st : PySem.Stmt} {rest l1 l2 : List PySem.Stmt} {cs ct : Mn.St} {ta : Tm}
theorem c_nil : PSs X [] (tS P X.K Wx nxS) := PSs_imp pss_nil fun D σ H h => by
  obtain ⟨μ, s, I, h⟩ := h
  exact h μ σ H (.refl I)
theorem c_cons (h1 : PS X st (tS P X.K Wx cs)) (h2 : PSs X rest (tS P X.K Wx ct)) : PSs X (st :: rest) (tS P X.K Wx (seqS cs ct)) := PSs_imp (pss_cons h1 h2) fun D σ H h => by
  obtain ⟨μ, s, I, h⟩ := h
  refine ⟨μ, s, I, ?_⟩
  unfold seqS at h
  cases q : cs s with
  | nx s1 =>
    rw [q] at h
    exact fun μ1 σ1 H1 A => ⟨μ1, s1, A.sim, h.from A⟩
  | rt r s1 => rw [q] at h; exact h
  | bk s1 => rw [q] at h; exact h
  | ct s1 => rw [q] at h; exact h
  | exc c xs s1 => rw [q] at h; exact h
  | bad => rw [q] at h; exact h
theorem c_one (h1 : PS X st (tS P X.K Wx cs)) : PSs X [st] (tS P X.K Wx cs) := pss_one h1
theorem c_pass : PS X (.Pass pos) (tS P X.K Wx nxS) := PS_imp ps_pass fun D σ H h => by
  obtain ⟨μ, s, I, h⟩ := h
  exact h μ σ H (.refl I)
theorem c_brk : PS X (.Break pos) (tS P X.K Wx brkS) := PS_imp ps_break fun D σ H h => by
  obtain ⟨μ, s, I, h⟩ := h
  exact h μ σ H (.refl I)
theorem c_cont : PS X (.Continue pos) (tS P X.K Wx ctS) := PS_imp ps_continue fun D σ H h => by
  obtain ⟨μ, s, I, h⟩ := h
  exact h μ σ H (.refl I)
theorem c_expr (he : PE X e (tE P X.K Wx ca)) (hs : swapsWith e none pos.line X.env = pure false := by rfl) : PS X (.Expr e pos) (tS P X.K Wx (exprS ca)) := PS_imp (ps_expr he hs) fun D σ H h => by
  obtain ⟨μ, s, I, h⟩ := h
  exact ⟨μ, s, I, (PstS.res h).mono fun r s1 μ1 H1 A h v rv fv => h μ1 σ H1 A.toS⟩
theorem c_ret (he : PE X e (tE P X.K Wx ca)) : PS X (.Return (some e) pos) (tS P X.K Wx (retS ca)) := PS_imp (ps_ret he) fun D σ H h => by
  obtain ⟨μ, s, I, h⟩ := h
  exact ⟨μ, s, I, (PstS.res h).mono fun r s1 μ1 H1 A h v rv fv => h μ1 σ H1 v A.toS rv fv⟩
theorem c_retN : PS X (.Return none pos) (tS P X.K Wx (retS (kE .non))) := PS_imp ps_retN fun D σ H h => by
  obtain ⟨μ, s, I, h⟩ := h
  exact h μ σ H .non (.refl I) (SimW.d .non) trivial
theorem c_if (hc : PT X c (tT P X.K Wx ta)) (ha : PSs X l1 (tS P X.K Wx cs)) (hb : PSs X l2 (tS P X.K Wx ct)) : PS X (.If c l1 l2 pos) (tS P X.K Wx (ifS ta cs ct)) := PS_imp (ps_if hc ha hb) fun D σ H h => by
  obtain ⟨μ, s, I, h⟩ := h
  refine ⟨μ, s, I, (PstS.res h).mono fun r s1 μ1 H1 A h => ?_⟩
  cases r with
  | true => exact ⟨μ1, s1, A.sim, h.from A.toS⟩
  | false => exact ⟨μ1, s1, A.sim, h.from A.toS⟩
theorem c_set {i : Nat} {x : PySem.Str} (hN : X.N.Nodup) (hi : X.N[i]? = some x) (hx : Loc X.env.scope x) (he : PE X e (tE P X.K Wx ca)) (hs : swapsWith e (some (.Name x pos')) pos.line X.env = pure false := by rfl)
    (hf : X.fn x = true ∨ X.env.scope.names.lookup x = some .local := by first | exact .inl rfl | exact .inr rfl | assumption) : PS X (.Assign [.Name x pos'] e pos) (tS P X.K Wx (setS i ca)) := PS_imp (ps_set hN hi hx he hs hf) fun D σ H h => by
  obtain ⟨μ, s, I, h⟩ := h
  refine ⟨μ, s, I, (PstS.res h).mono fun r s1 μ1 H1 A h v rv fv => ?_⟩
  cases q : asg i r s1 with
  | none => rw [q] at h; exact h.elim
  | some s2 =>
    rw [q] at h
    obtain ⟨μ2, A2⟩ := Sim.asgOk A.toS rv fv q
    exact h μ2 _ H1 A2
end
end Mn

end
section
set_option Elab.async false
set_option linter.all false
set_option maxRecDepth 100000
set_option maxHeartbeats 4000000
/-! MnRule6: targets, stores, while. -/
namespace Mn
open PySem PySem.Spec PyProof.Rows L2
theorem PG_imp {X : Cx} {e : PySem.Expr} {t t' : TG} (h : PG X e t) (i : ∀ v σ H Q, t' v σ H Q → t v σ H Q) : PG X e t' := ⟨fun pins s σ H v u Q I r q => h.run pins s σ H v u Q I r (i v σ H Q q)⟩
theorem PGs_imp {X : Cx} {e : List PySem.Expr} {t t' : TGs} (h : PGs X e t) (i : ∀ v σ H Q, t' v σ H Q → t v σ H Q) : PGs X e t' := ⟨fun pins s σ H v u Q I r q => h.run pins s σ H v u Q I r (i v σ H Q q)⟩
theorem PS_or {X : Cx} {e : PySem.Stmt} {t t' : TS} (h : PS X e t) (h' : PS X e t') : PS X e fun D σ H => t D σ H ∨ t' D σ H := ⟨fun pins s σ H D I q => q.elim (h.run pins s σ H D I) (h'.run pins s σ H D I)⟩
def tG (P : Pr) (K : PySem.W.Frag) (vs : List Nat) (t : Tg) : TG := fun v σ H Q => ∃ (μ0 : List Addr) (s0 : S) (σ0 : L2.St) (H0 : Hp) (μ : List Addr) (s : S) (r : R) (s' : S), AftS P K μ0 s0 σ0 H0 μ s σ H ∧ RepR P K μ s σ H r v ∧ Frs H0 r v ∧ t r s = some s' ∧
  ∀ μ' σ', AftS P K μ0 s0 σ0 H0 μ' s' σ' H → L2.wipe σ' vs = L2.wipe σ vs → Q σ' H
def tGs (P : Pr) (K : PySem.W.Frag) (vs : List Nat) (ts : List Tg) : TGs := fun xs σ H Q => ∃ (μ : List Addr) (s : S) (ws : List W) (s' : S), Sim P K μ s σ H ∧ SimWs K μ H ws xs ∧ tgs ts ws s = some s' ∧
  ∀ μ' σ', AftS P K μ s σ H μ' s' σ' H → L2.wipe σ' vs = L2.wipe σ vs → Q σ' H
theorem wipe_set {σ : L2.St} {i : Nat} {x : Option V} : ∀ {vs : List Nat}, i ∈ vs → L2.wipe (σ.set i x) vs = L2.wipe σ vs
  | [], h => by simp at h
  | v :: vs, h => by
    unfold L2.wipe
    rcases List.mem_cons.mp h with rfl | h
    · have key : ∀ ws : List Nat, (L2.wipe (σ.set i x) ws).set i none = (L2.wipe σ ws).set i none := fun ws => by
        induction ws with
        | nil => unfold L2.wipe; rw [List.set_set]
        | cons w ws ih =>
          unfold L2.wipe
          by_cases hw : w = i
          · subst hw; rw [List.set_set, List.set_set]; exact ih
          · rw [List.set_comm _ _ hw, ih, List.set_comm _ _ (Ne.symm hw)]
      exact key vs
    · rw [wipe_set h]
section
variable {X : Cx} {P : Pr} {Wx : WX} {pos pos' p p2 : Pos} {a b c e o i : PySem.Expr} {ca cb cc co ci : Ex} {vs : List Nat} {t : Tg} {ts : List Tg} {es : List PySem.Expr}
theorem g_name {i : Nat} {x : PySem.Str} (hN : X.N.Nodup) (hi : X.N[i]? = some x) (hx : Loc X.env.scope x) (hv : i ∈ vs) (hf : X.fn x = true ∨ X.env.scope.names.lookup x = some .local := by first | exact .inl rfl | exact .inr rfl | assumption) :
    PG X (.Name x pos) (tG P X.K vs (tgV i)) := PG_imp (pg_name hN hi hx hf) fun v σ H Q h => by
  obtain ⟨μ0, s0, σ0, H0, μ, s, r, s', A, rv, fv, e, h⟩ := h
  obtain ⟨μ2, A2⟩ := Sim.asgOk A rv fv e
  exact h μ2 _ A2 (wipe_set hv)
theorem gs_nil : PGs X [] (tGs P X.K vs []) := PGs_imp pgs_nil fun v σ H Q h => by
  obtain ⟨μ, s, ws, s', I, rs, e, h⟩ := h
  cases ws with
  | nil =>
    cases rs
    cases e
    exact ⟨rfl, h μ σ (.refl I) rfl⟩
  | cons w ws => cases e
theorem gs_cons (h1 : PG X e (tG P X.K vs t)) (h2 : PGs X es (tGs P X.K vs ts)) (hs : (assignEach (e :: es) X.env).map (·.2) = assign e X.env :: (assignEach es X.env).map (·.2) := by rfl) : PGs X (e :: es) (tGs P X.K vs (t :: ts)) := PGs_imp (pgs_cons h1 h2 hs) fun v σ H Q h => by
  obtain ⟨μ, s, ws, s', I, rs, e, h⟩ := h
  cases ws with
  | nil => cases e
  | cons w ws =>
    cases rs with
    | @cons _ u _ us r rs =>
      have e : (match t (.w w) s with
        | some s1 => tgs ts ws s1
        | none => none) = some s' := e
      cases q : t (.w w) s with
      | none => rw [q] at e; cases e
      | some s1 =>
        rw [q] at e
        refine ⟨u, us, rfl, μ, s, σ, H, μ, s, .w w, s1, .refl I, r, trivial, q, fun μ1 σ1 A1 w1 => ?_⟩
        exact ⟨μ1, s1, ws, s', A1.sim, rs.mono Tups.refl A1.pre, e, fun μ2 σ2 A2 w2 => h μ2 σ2 (A1.trans A2) (w2.trans w1)⟩
theorem tgs_len : ∀ {ts : List Tg} {ws : List W} {s s' : S}, tgs ts ws s = some s' → ws.length = ts.length
  | [], [], _, _, _ => rfl
  | [], _ :: _, _, _, h => nomatch h
  | _ :: _, [], _, _, h => nomatch h
  | t :: ts, w :: ws, s, s', h => by
    have h : (match t (.w w) s with
        | some s1 => tgs ts ws s1
        | none => none) = some s' := h
    cases q : t (.w w) s with
    | none => rw [q] at h; cases h
    | some s1 => rw [q] at h; simp [tgs_len h]
theorem g_tup {k : Nat} (hc : X.calm = true) (h : PGs X es (tGs P X.K vs ts)) (hl : ts.length = es.length := by rfl) (hn : (assignEach es X.env).length = es.length := by rfl) (hst : (assignEach es X.env).findIdx? (·.1) = none := by rfl) :
    PG X (.Tuple es k pos) (tG P X.K vs (tgT ts)) := PG_imp (pg_tup (n := es.length) hc h hn hst) fun v σ H Q h => by
  obtain ⟨μ0, s0, σ0, H0, μ, s, r, s', A, rv, fv, e, h⟩ := h
  cases r with
  | new o => cases e
  | slot j => cases e
  | w x =>
    have e : (match x.items with
      | some ws => tgs ts ws s
      | none => none) = some s' := e
    cases q : x.items with
    | none => rw [q] at e; cases e
    | some ws =>
      rw [q] at e
      obtain ⟨a, us, rfl, ha, rs⟩ := SimW_items rv q
      exact ⟨a, us, rfl, ha, by rw [← SimWs_len rs, tgs_len e, hl], μ, s, ws, s', A.sim, rs, e, fun μ' σ' B w => h μ' σ' (A.trans B) w⟩
/-- target = value -/
theorem c_unp {tg : PySem.Expr} (he : PE X e (tE P X.K Wx ca)) (hg : PG X tg (tG P X.K vs t)) (hs : swapsWithSole [tg] e pos.line X.env = pure false := by rfl) (hw : swappedStores [tg] e X.env = pure none := by rfl)
    (h1 : (assignEach [tg] X.env).map (·.2) = [assign tg X.env] := by rfl) : PS X (.Assign [tg] e pos) (tS P X.K Wx (unpS t ca)) := PS_imp (ps_asg he hg hs hw h1) fun D σ H h => by
  obtain ⟨μ, s, I, h⟩ := h
  refine ⟨μ, s, I, (PstS.res h).mono fun r s1 μ1 H1 A h v rv fv => ?_⟩
  cases q : t r s1 with
  | none => rw [q] at h; exact h.elim
  | some s2 =>
    rw [q] at h
    exact ⟨μ, s, σ, H, μ1, s1, r, s2, A.toS, rv, fv, q, fun μ2 σ2 A2 _ => h μ2 σ2 H1 A2⟩
/-! ### o[i] = v -/
theorem put_of {K : PySem.W.Frag} {μ : List Addr} {s : S} {σ : L2.St} {H : Hp} {D : Ends} {F : V → V → V → Hp → Prop} (I : Sim P K μ s σ H) (h : PstS P K Wx μ s σ H (putS co ci ca s) D)
    (hF : ∀ r s1 ro s2 ri s3 x s4 s5, ca s = .ok r s1 → co s1 = .ok ro s2 → ci s2 = .ok ri s3 → boxR r s3 = some (x, s4) → putV ro ri x s4 = some s5 →
      ∀ μ3 H3 v vo vi, Aft P K μ s σ H μ3 s3 H3 → RepR P K μ3 s3 σ H3 r v → RepR P K μ3 s3 σ H3 ro vo → RepR P K μ3 s3 σ H3 ri vi → Frs H r v → (∀ μ' H', AftS P K μ s σ H μ' s5 σ H' → D.nx σ H') → F vo vi v H3) :
    tE P K Wx ca σ H fun v H1 => tE P K Wx co σ H1 fun x H2 => tE P K Wx ci σ H2 fun y H3 => F x y v H3 := by
  refine ⟨μ, s, I, ?_⟩
  have h1 := PstS.res h
  cases e1 : ca s with
  | bad => rw [e1] at h1; exact h1.elim
  | exc c xs s1 => rw [e1] at h1; exact h1
  | ok r s1 =>
    rw [e1] at h1
    intro μ1 H1 A v rv fv
    refine ⟨μ1, s1, A.sim, ?_⟩
    have h2 := (PstS.res (h1 μ1 H1 A)).from A
    cases e2 : co s1 with
    | bad => rw [e2] at h2; exact h2.elim
    | exc c xs s2 => rw [e2] at h2; exact h2
    | ok ro s2 =>
      rw [e2] at h2
      intro μ2 H2 B vo rvo fvo
      refine ⟨μ2, s2, B.sim, ?_⟩
      have AB := A.trans B
      have h3 := (PstS.res (h2 μ2 H2 B)).from AB
      cases e3 : ci s2 with
      | bad => rw [e3] at h3; exact h3.elim
      | exc c xs s3 => rw [e3] at h3; exact h3
      | ok ri s3 =>
        rw [e3] at h3
        intro μ3 H3 C vi rvi fvi
        have h4 : PstS P K Wx μ s σ H (match boxR r s3 with
          | some (x, s4) => ofOpt (putV ro ri x s4)
          | none => .bad) D := h3 μ3 H3 C
        cases e4 : boxR r s3 with
        | none => rw [e4] at h4; exact h4.elim
        | some y =>
          obtain ⟨x, s4⟩ := y
          rw [e4] at h4
          have h4 : PstS P K Wx μ s σ H (ofOpt (putV ro ri x s4)) D := h4
          cases e5 : putV ro ri x s4 with
          | none => rw [e5] at h4; exact h4.elim
          | some s5 =>
            rw [e5] at h4
            exact hF r s1 ro s2 ri s3 x s4 s5 e1 e2 e3 e4 e5 μ3 H3 v vo vi (AB.trans C) ((rv.aft A.sim B).aft B.sim C) (rvo.aft B.sim C) rvi fv fun μ' H' E => h4 μ' σ H' E
theorem putK_of {K : PySem.W.Frag} {μ : List Addr} {H : Hp} {k : D} {kk : Key} (hk : keyD k = some kk) (rk : RepD K H k (kV kk)) {w : W} {v : V} (rv : SimW K μ H w v) {kvs : List (D × W)} {ps : List (Key × V)} (h : SimK K μ H kvs ps) : SimK K μ H (dput kvs k w) (putK ps kk v) := by
  have ha : (ps.any fun kv => decide (kv.1 = kk)) = kvs.any fun q => decide (q.1 = k) := by
    induction h with
    | nil => rfl
    | @cons p q ps qs h t ih =>
      simp only [List.any_cons, ih]
      congr 1
      exact decide_eq_decide.mpr (keyD_inj h.1 hk)
  unfold dput putK
  rw [ha]
  by_cases hq : (kvs.any fun q => decide (q.1 = k)) = true
  · rw [if_pos hq, if_pos hq]
    clear ha hq
    induction h with
    | nil => exact .nil
    | @cons p q ps qs h t ih =>
      refine .cons ?_ ih
      by_cases e : p.1 = k
      · show keyD (if p.1 = k then (p.1, w) else p).1 = some (if q.1 = kk then (q.1, v) else q).1 ∧ SimW K μ H (if p.1 = k then (p.1, w) else p).2 (if q.1 = kk then (q.1, v) else q).2 ∧ RepD K H (if p.1 = k then (p.1, w) else p).1 (kV (if q.1 = kk then (q.1, v) else q).1)
        rw [if_pos e, if_pos ((keyD_inj h.1 hk).mpr e)]
        exact ⟨h.1, rv, h.2.2⟩
      · show keyD (if p.1 = k then (p.1, w) else p).1 = some (if q.1 = kk then (q.1, v) else q).1 ∧ SimW K μ H (if p.1 = k then (p.1, w) else p).2 (if q.1 = kk then (q.1, v) else q).2 ∧ RepD K H (if p.1 = k then (p.1, w) else p).1 (kV (if q.1 = kk then (q.1, v) else q).1)
        rw [if_neg e, if_neg fun z => e ((keyD_inj h.1 hk).mp z)]
        exact h
  · rw [if_neg hq, if_neg hq]
    clear ha hq
    induction h with
    | nil => exact .cons ⟨hk, rv, rk⟩ .nil
    | cons h t ih => exact .cons h ih
theorem c_put (hu : X.A.units + 1 < cLine) (ho : PE X o (tE P X.K Wx co)) (hi : PE X i (tE P X.K Wx ci)) (he : PE X e (tE P X.K Wx ca)) (hs : swapsWithSole [.Subscript o i pos'] e pos.line X.env = pure false := by rfl) (hw : swappedStores [.Subscript o i pos'] e X.env = pure none := by rfl)
    (h1 : (assignEach [.Subscript o i pos'] X.env).map (·.2) = [assign (.Subscript o i pos') X.env] := by rfl) (hs' : swapsWith e (some (.Subscript o i pos')) pos.line X.env = pure false := by rfl)
    (ha : ∀ v, assign (.Subscript o i pos') X.env v = (do
      let ov ← holding [v] (eval o X.env)
      let iv ← holding [v, ov] (eval i X.env)
      standAt pos'
      holding [v, ov, iv] (setItem ov iv v)
      release [v, ov, iv] []) := by intro _; rfl) : PS X (.Assign [.Subscript o i pos'] e pos) (tS P X.K Wx (putS co ci ca)) :=
  PS_imp (PS_or (ps_asg he (pg_sub ho hi set_list ha) hs hw h1) (ps_dput hu ho hi he hs')) fun D σ H h => by
  obtain ⟨μ, s, I, h⟩ := h
  by_cases hd : ∃ r s1 ro s2 ri s3 x s4 p z kvs, ca s = .ok r s1 ∧ co s1 = .ok ro s2 ∧ ci s2 = .ok ri s3 ∧ boxR r s3 = some (x, s4) ∧ locR s4 ro = some p ∧ getO s4 p = some (.dct z kvs)
  · right
    refine put_of I h fun r s1 ro s2 ri s3 x s4 s5 e1 e2 e3 e4 e5 μ3 H3 v vo vi A rv rvo rvi fv hq => ?_
    obtain ⟨r', s1', ro', s2', ri', s3', x', s4', p, z, kvs, d1, d2, d3, d4, d5, d6⟩ := hd
    cases e1.symm.trans d1
    cases e2.symm.trans d2
    cases e3.symm.trans d3
    cases e4.symm.trans d4
    obtain ⟨μ4, B, sw⟩ := A.sim.box rv e4
    have A4 := B.aft A fun a ha => by obtain ⟨⟨o, rfl⟩, rfl⟩ := ha; exact fv
    have nn : ∀ a, ¬ isNew ro vo a := fun a ⟨⟨o, z⟩, _⟩ => by subst z; exact nomatch (show (none : Option Src) = some p from d5)
    have rvo4 := rvo.bx B fun a ha => absurd ha (nn a)
    obtain ⟨a, rfl, ha, so⟩ := A4.sim.locAt rvo4 d5 d6
    unfold putV at e5
    simp only [d5] at e5
    split at e5 <;> first | (cases e5; done) | skip
    rename_i p' k hp'
    cases hp'
    simp only [d6] at e5
    cases z with
    | true => cases e5
    | false =>
      simp only at e5
      split at e5 <;> cases e5
      rename_i hk
      simp only [Bool.and_eq_true, decide_eq_true_eq] at hk
      obtain ⟨kk, ek⟩ := keyD_some hk.1
      obtain ⟨ps, e6, rs⟩ := so
      have rk : RepD X.K H3 k vi := by
        cases (show SimW X.K μ3 H3 (.d k) vi from rvi) with
        | d q => exact q
      have ev : vi = kV kk := keyD_kV rk ek
      subst ev
      have hl : kvs.length = ps.length := Paired.length rs
      refine ⟨a, _, rfl, .k e6 (by rw [← hl, ← LN_eq]; exact hk.2), ?_⟩
      refine hq μ4 _ (A4.trans (A4.sim.write d6 (fun _ z => nomatch z) ha ?_)).toS
      exact ⟨_, upd_same, (putK_of ek rk sw rs).mono (tups_upd A4.sim ha.foot) (List.prefix_refl _)⟩
  · left
    refine put_of I h fun r s1 ro s2 ri s3 x s4 s5 e1 e2 e3 e4 e5 μ3 H3 v vo vi A rv rvo rvi fv hq => ?_
    obtain ⟨μ4, B, sw⟩ := A.sim.box rv e4
    have A4 := B.aft A fun a ha => by obtain ⟨⟨o, rfl⟩, rfl⟩ := ha; exact fv
    unfold putV at e5
    split at e5 <;> first | (cases e5; done) | skip
    rename_i p k d5
    have nn : ∀ a, ¬ isNew ro vo a := fun a ⟨⟨o, z⟩, _⟩ => by subst z; exact nomatch (show (none : Option Src) = some p from d5)
    have rvo4 := rvo.bx B fun a ha => absurd ha (nn a)
    cases d6 : getO s4 p with
    | none => simp only [d6] at e5; cases e5
    | some ob =>
      cases ob with
      | dct z kvs => exact absurd ⟨r, s1, ro, s2, _, s3, x, s4, p, z, kvs, e1, e2, e3, e4, d5, d6⟩ hd
      | ins c fs => simp only [d6] at e5; cases e5
      | lst ws =>
        simp only [d6] at e5
        cases k with
        | non => cases e5
        | bl _ => cases e5
        | str _ => cases e5
        | tup _ => cases e5
        | int n =>
          obtain ⟨j, e7, e8⟩ := Option.map_eq_some_iff.mp e5
          subst e8
          cases rep_int rvi
          obtain ⟨a, rfl, ha, us, e6, rs⟩ := A4.sim.locAt rvo4 d5 d6
          refine ⟨a, us, n, j, rfl, rfl, e6, by rw [← SimWs_len rs, ← ixN_eq]; exact e7, ?_⟩
          exact hq μ4 _ (putList A4 d6 ha (rs.set sw j)).toS
/-! ### while -/
theorem PstS.turn {K : PySem.W.Frag} {μ : List Addr} {s : S} {σ : L2.St} {H : Hp} {k : S → Out} {x : Out} {D : Ends} (h : PstS P K Wx μ s σ H (turnO k x) D) :
    PstS P K Wx μ s σ H x { D with nx := fun σ' H' => ∃ μ' s', AftS P K μ s σ H μ' s' σ' H' ∧ PstS P K Wx μ s σ H (k s') D, ct := fun σ' H' => ∃ μ' s', AftS P K μ s σ H μ' s' σ' H' ∧ PstS P K Wx μ s σ H (k s') D, bk := D.nx } := by
  cases x with
  | nx s' => exact fun μ' σ' H' A => ⟨μ', s', A, h⟩
  | ct s' => exact fun μ' σ' H' A => ⟨μ', s', A, h⟩
  | bk s' => exact h
  | rt r s' => exact h
  | exc c xs s' => exact h
  | bad => exact h
theorem c_while {tc : Tm} {cb : Mn.St} {body : List PySem.Stmt} (hp : PassesOwn (model X.prog X.w) X.A X.env X.xe) (hc : PT X c (tT P X.K Wx tc)) (hb : PSs X body (tS P X.K Wx cb)) : PS X (.While c body [] pos) (tS P X.K Wx (whileS tc cb)) := PS_imp (ps_while hp hc hb) fun D σ H h => by
  obtain ⟨μ, s, I, h⟩ := h
  refine ⟨fun m σ' H' => ∃ μ' s', AftS P X.K μ s σ H μ' s' σ' H' ∧ PstS P X.K Wx μ s σ H (whileN tc cb m s') D, ⟨WN, μ, s, .refl I, h⟩, fun m σ' H' w => ?_⟩
  obtain ⟨μ', s', A, w⟩ := w
  cases m with
  | zero => exact w.elim
  | succ m =>
    refine ⟨μ', s', A.sim, ?_⟩
    have w := PstS.res' A w
    refine w.mono fun b s1 μ1 H1 B w => ?_
    cases b with
    | false => exact w μ1 σ' H1 (A.trans B.toS)
    | true =>
      rw [if_pos rfl]
      refine ⟨_, fun σ'' H'' n => ⟨m, Nat.lt_succ_self m, n⟩, μ1, s1, B.sim, ?_⟩
      exact PstS.from (A.trans B.toS) (PstS.turn w)
end
end Mn

end
section
set_option Elab.async false
set_option linter.all false
set_option maxRecDepth 100000
set_option maxHeartbeats 4000000
/-! MnEnum: enumerate of a tuple. -/
namespace PySem
open Sem (wp)
open AutoSeq1 (wpAny_loadPart')
theorem meets_enumerate_newT (l : Addr) (items : Array Value) (n : Nat) (dct : Option Addr) (sl : Array (Option Value)) :
    Meets (Builtin.«enumerate.__new__» ⟨[.type "enumerate", .ref l], []⟩) (fun _ R s => s.heap.get? l = some { cls := .type "tuple", dict := dct, data := .seq items n, slots := sl } ∧
      R (.ok (.ret (.ref (s.heap.push { cls := .type "tuple_iterator", data := .fields #[.ref l, .int 0 0] }).objs.size)))
        { s with heap := (s.heap.push { cls := .type "tuple_iterator", data := .fields #[.ref l, .int 0 0] }).push { cls := .type "enumerate", data := .fields #[.none, .bool false, .ref s.heap.objs.size, rawInt 0, .none, .none] } }) :=
  .of_wp fun prog w A R s h => by
    obtain ⟨hp, g, d, tk, os⟩ := s; obtain ⟨hl, h⟩ := h
    have hsub := sub_enumerate
    have hL : Heap.IsTuple (Shared.heap ⟨hp, g, d, tk, os⟩) l items := ⟨_, hl, rfl, n, rfl⟩
    wp_walk using wpAny_loadPart' hl
    refine wpAny_stack_any fun st => wpAny_pure ?_
    split
    · rename_i c _ _ _ _ _
      cases (c == Value.type "enumerate")
      · wp_walk using wpAny_loadPart' hl, wpAny_pyIter_tuple hL
        exact ⟨_, rfl, h⟩
      · wp_walk using wpAny_loadPart' hl, wpAny_pyIter_tuple hL
        exact ⟨_, rfl, h⟩
    · wp_walk using wpAny_loadPart' hl, wpAny_pyIter_tuple hL
      exact ⟨_, rfl, h⟩
section
variable {prog : Program} {w : World} {A : Around} {E : Value → Shared → Prop} {s : Shared}
theorem call_enumerate_tuple {l : Addr} {items : Array Value} {Q : Value → Shared → Prop} (hL : s.heap.IsTuple l items)
    (h : ∀ h', IsEnum h' (s.heap.objs.size + 1) s.heap.objs.size 0 .none → h'.IsTupleIter s.heap.objs.size l 0 → h'.objs.size = s.heap.objs.size + 2 →
      (∀ b o, s.heap.get? b = some o → h'.get? b = some o) → Q (.ref (s.heap.objs.size + 1)) { s with heap := h' }) :
    wpAny (model prog w) A (call (.type "enumerate") [.ref l]) Q E s := by
  obtain ⟨⟨c, dct, dt, sl⟩, hl, hc, n, hd⟩ := hL
  replace hc : c = .type "tuple" := hc
  replace hd : dt = .seq items n := hd
  subst hc hd
  refine callType_new F.called_enumerate (by decide) (F.typeCall_enumerate_1 _) (F.newCall_enumerate_1 _) (fun obj => F.args_object_init_2 obj _) F.entry_enumerate_new
    (meets_enumerate_newT l items n dct sl) ⟨hl, ?_⟩
  have hz : (s.heap.push { cls := .type "tuple_iterator", data := .fields #[.ref l, .int 0 0] }).objs.size = s.heap.objs.size + 1 := Heap.size_push ..
  show _ ∧ _
  rw [hz]
  have he : IsEnum ((s.heap.push { cls := .type "tuple_iterator", data := .fields #[.ref l, .int 0 0] }).push
      { cls := .type "enumerate", data := .fields #[.none, .bool false, .ref s.heap.objs.size, rawInt 0, .none, .none] }) (s.heap.objs.size + 1) s.heap.objs.size 0 .none := by
    have := Heap.get?_push_size (s.heap.push { cls := .type "tuple_iterator", data := .fields #[.ref l, .int 0 0] })
      (o := { cls := .type "enumerate", data := .fields #[.none, .bool false, .ref s.heap.objs.size, rawInt 0, .none, .none] }) rfl
    rw [hz] at this; exact this
  exact ⟨⟨_, he, rfl⟩, h _ he ⟨_, Heap.get?_push_of_some _ (Heap.get?_push_size _ rfl), rfl, rfl⟩ (by rw [Heap.size_push, hz]) fun b o x => Heap.get?_push_of_some _ (Heap.get?_push_of_some _ x)⟩
end
end PySem
namespace Mn
open PySem PySem.Spec PyProof.Rows L2
/-- the tuple at a, each item in a new pair -/
def IteT (K : PySem.W.Frag) (a : Addr) : L2.It :=
  ⟨fun i H => ∃ (xs : List V) (x : V), SqT K H a xs ∧ xs[i]? = some x, fun i H v H' => ∃ T x, v = .ref T ∧ H T = none ∧ H' = upd H T (.tup [.int (i : Nat), x]) ∧ ∀ xs, SqT K H a xs → xs[i]? = some x, fun i H => ∃ xs : List V, SqT K H a xs ∧ xs.length = i⟩
theorem turn_enumT {P : Program} {w : World} {K : PySem.W.Frag} {elts : List Expr} {kk : Nat} {tpos : Pos} (a e it : Addr) :
    Turn P w K (.Tuple elts kk tpos) (IteT K a) [e, it] e (fun i h => (∃ old, IsEnum h e it ((i : Nat) : Int) old) ∧ h.IsTupleIter it a i ∧ e ≠ it ∧ a ≠ it) where
  mem := by simp
  obj := fun i h st b hb => by
    obtain ⟨⟨old, he⟩, ⟨o, ho, hc, hd⟩, _⟩ := st
    have e' : b = e ∨ b = it := by simpa using hb
    rcases e' with z | z
    · rw [z]; exact ⟨_, he, fun v q => nomatch q⟩
    · rw [z]; exact ⟨o, ho, fun v q => by rw [hd] at q; cases q⟩
  keep := fun i h h' st k => let ⟨⟨old, he⟩, hi, hne⟩ := st; ⟨⟨old, k e (by simp) _ he⟩, hi.at fun o q => k it (by simp) o q, hne⟩
  item := by
    intro X hP hw hK hc i pins s σ H E I hf st hg
    subst hP hw hK
    obtain ⟨⟨old, he⟩, hit, hne, hat⟩ := st
    obtain ⟨xs, x, hq, hx⟩ := hg
    obtain ⟨its, rv, p, hz⟩ := I.tuple hq
    obtain ⟨u, hu, ru⟩ := rv.get hx
    have hel : e < s.heap.objs.size := Heap.lt_size he
    have hil : it < s.heap.objs.size := by obtain ⟨_, q, _⟩ := hit; exact Heap.lt_size q
    have hilt : i < its.length := (List.getElem?_eq_some_iff.mp hu).1
    have hea : e ≠ a := fun z => by
      subst z
      obtain ⟨o, q1, q2, _⟩ := p
      have he' : s.heap.get? e = some { cls := .type "enumerate", data := _ } := he
      rw [he'] at q1
      cases q1
      have q2 : Value.type "enumerate" = Value.type "tuple" := q2
      injection q2 with z
      exact absurd z (by decide)
    refine wpAny_pyNext_enum_itemD (i := i) (Draws.tuple (prog := X.prog) (w := X.w) (A := X.A.in1) (I.ok.hd hc) it a hat its.toArray) he ⟨hit, p⟩ (by simpa using hilt) hne (by simp [hne, hea]) fun x' h' tk hx' ho st' hT hsz hk => ?_
    have hxu : x' = u := by
      have h1 : its[i]? = some x' := by simpa using hx'
      rw [hu] at h1
      exact (Option.some.inj h1).symm
    subst hxu
    refine ⟨_, rfl, wpAny_letOwnedTupleGo_enum (s := { s with heap := h', toks := tk + 1 }) ho fun h'' he' sb => ?_⟩
    have hT2 : h''.get? s.heap.objs.size = some { cls := .type "tuple", data := .seq #[.int i tk, x'] } := (sb.2 _ (Nat.ne_of_gt hel)).trans hT
    have new : ObjOk X.prog X.w (upd H s.heap.objs.size (.tup [.int (i : Nat), x])) h'' s.heap.objs.size (.tup [.int (i : Nat), x]) :=
      ⟨by show 2 ≤ sizeLine; decide, [.int i tk, x'], .cons ⟨_, rfl⟩ (.cons ru .nil), ⟨_, hT2, rfl, _, rfl⟩⟩
    have I1 : Inv X pins σ (upd H s.heap.objs.size (.tup [.int (i : Nat), x])) { s with heap := h'', toks := tk + 1 } :=
      I.turnedNew (ch := [e, it]) (fun b ob hb q => (sb.2 b (fun z => hb (by simp [z]))).trans (hk b ob (fun z => hb (by simp [z])) (fun z => hb (by simp [z])) q)) hf (Nat.le_refl _) new
    refine ⟨.ref s.heap.objs.size, _, I1, rfl, ⟨_, x, rfl, I.hok.fresh (Nat.le_refl _), rfl, fun ys hy => by rw [I.tuple_inj hy hq]; exact hx⟩, ⟨⟨x', ?_⟩, st'.1.at fun o q => (sb.2 it (Ne.symm hne)).trans q, hne, hat⟩, fun b hb => ?_⟩
    · have e1 : ((i + 1 : Nat) : Int) = (i : Int) + 1 := by omega
      rw [e1]; exact he'
    · have hb' : b < s.heap.objs.size := by
        have e' : b = e ∨ b = it := by simpa using hb
        rcases e' with z | z
        · rw [z]; exact hel
        · rw [z]; exact hil
      rw [upd_ne (Nat.ne_of_lt hb')]
      exact (hf b hb).1
  done := by
    intro X hP hw hK hc i pins s σ H E I hf st hg
    subst hP hw hK
    obtain ⟨⟨old, he⟩, hit, hne, hat⟩ := st
    obtain ⟨xs, hq, hx⟩ := hg
    obtain ⟨its, rv, p, hz⟩ := I.tuple hq
    obtain ⟨f0, f1, f2, f3, f4, f5⟩ := hf it (by simp)
    have hl : its.toArray.size = i := by rw [← hx, rv.length]; simp
    subst hl
    exact wpAny_pyNext_enum_endD (Draws.tuple (prog := X.prog) (w := X.w) (A := X.A.in1) (I.ok.hd hc) it a hat its.toArray) he ⟨hit, p⟩ fun h' eb => ⟨rfl, I.turned (t' := s.toks) (fun b o hb q => eb b o hb q) f0 f1 f3 f4 f5⟩
  self := fun A i s Q E st h => let ⟨⟨_, he⟩, _⟩ := st; wpAny_pyIter_enum he h
def iEnumT (K : PySem.W.Frag) (ta : TA) : TI := fun σ H R => ta σ H fun vs H1 => ∃ a xs, vs = [.ref a] ∧ SqT K H1 a xs ∧ R (IteT K a) H1
theorem pi_enumT {X : Cx} {e : Expr} {ta : TA} {p pos tpos : Pos} {elts : List Expr} {kk : Nat} (hg : Gl X "enumerate") (hm : X.mg "enumerate" = none) (ha : PA X [e] ta) (hs : starEach [e] X.env = [(false, eval e X.env)] := by rfl) :
    PI X (.Tuple elts kk tpos) (.Call (.Name "enumerate" p) [e] [] pos) (iEnumT X.K ta) := by
  refine ⟨fun pins s σ H R I h => ?_⟩
  refine Call_ (ld_blt I hg hm boot_enumerate (PyProof.Rows.callWith_type1 (thn (ha.run pos pins s σ H _ I h) fun us s1 ⟨vs, H1, I1, r1, q1⟩ => ?_) hs rfl))
  obtain ⟨a, xs, ex, hq, q⟩ := q1
  subst ex
  cases r1 with
  | cons r rr =>
    cases rr
    cases r
    obtain ⟨its, rv, p', hz⟩ := I1.tuple hq
    have hat : a ≠ s1.heap.objs.size := by
      obtain ⟨o, q1, _⟩ := p'
      exact Nat.ne_of_lt (Heap.lt_size q1)
    refine call_enumerate_tuple p' fun h' he hit hsz hk => wpAny_pyIter_enum he ?_
    have I2 : Inv X pins σ H1 { s1 with heap := h' } := I1.kept (t' := s1.toks) hk
    refine ⟨s1.heap.objs.size + 1, [s1.heap.objs.size + 1, s1.heap.objs.size], _, _, H1, rfl, I2, turn_enumT a (s1.heap.objs.size + 1) s1.heap.objs.size, ⟨⟨.none, he⟩, hit, Nat.succ_ne_self _, hat⟩, fun b hb => ?_, q⟩
    have e' : b = s1.heap.objs.size + 1 ∨ b = s1.heap.objs.size := by simpa using hb
    have hle : s1.heap.objs.size ≤ b := by
      rcases e' with z | z
      · rw [z]; exact Nat.le_add_right _ _
      · rw [z]; exact Nat.le_refl _
    exact I1.fpOk hle (I1.hok.fresh hle)
end Mn

end
section
set_option Elab.async false
set_option linter.all false
set_option maxRecDepth 100000
set_option maxHeartbeats 4000000
/-! MnRule7: for, over lists, tuples, texts, ranges, enumerate. -/
namespace Mn
open PySem PySem.Spec PyProof.Rows L2
def Frz (H H' : Hp) : Prop := ∀ a o u, H a = some (.frz o u) → H' a = some (.frz o u)
/-- an iterator of the layer walks what It tells -/
structure Good (P : Pr) (K : PySem.W.Frag) (μ₀ : List Addr) (H₀ : Hp) (J : L2.It) (it : Mn.It) : Prop where
  go : ∀ μ s σ H i w, μ₀ <+: μ → Tups K H₀ H → Frz H₀ H → Sim P K μ s σ H → kept s it.keep = true → it.items[i]? = some w → J.go i H ∧ ∀ x H', J.yld i H x H' → Aft P K μ s σ H μ s H' ∧ SimW K μ H' w x
  stop : ∀ μ s σ H, μ₀ <+: μ → Tups K H₀ H → Frz H₀ H → Sim P K μ s σ H → kept s it.keep = true → J.stop it.items.length H
def tI (P : Pr) (K : PySem.W.Frag) (Wx : WX) (c : S → Res Mn.It) : TI := fun σ H R => ∃ μ s, Sim P K μ s σ H ∧ Pst P K Wx μ s σ H (c s) fun i s' μ' H' => ∀ J, Good P K μ' H' J i → R J H'
theorem PI_imp {X : Cx} {tg e : PySem.Expr} {t t' : TI} (h : PI X tg e t) (i : ∀ σ H R, t' σ H R → t σ H R) : PI X tg e t' := ⟨fun pins s σ H R I q => h.run pins s σ H R I (i σ H R q)⟩
theorem PI_or {X : Cx} {tg e : PySem.Expr} {t t' : TI} (h : PI X tg e t) (h' : PI X tg e t') : PI X tg e fun σ H R => t σ H R ∨ t' σ H R := ⟨fun pins s σ H R I q => q.elim (h.run pins s σ H R I) (h'.run pins s σ H R I)⟩
section
variable {P : Pr} {K : PySem.W.Frag} {μ μ₀ : List Addr} {s : S} {σ : L2.St} {H H₀ : Hp}
/-- the list at a heap's place -/
theorem keptList {a : Addr} {j : Nat} {ws : List W} (hμ : μ₀[j]? = some a) (pre : μ₀ <+: μ) (I : Sim P K μ s σ H) (k : kept s (some (j, .lst ws)) = true) : ∃ vs, H a = some (.lst vs) ∧ SimWs K μ H ws vs := by
  have k : s.h[j]? = some (.lst ws) := by simpa [kept] using k
  obtain ⟨b, hb, vs, e, rs⟩ := paired_get I.heap k
  rw [pre_get pre hμ] at hb
  cases hb
  exact ⟨vs, e, rs⟩
theorem good_list {a : Addr} {j : Nat} {ws : List W} (hμ : μ₀[j]? = some a) : Good P K μ₀ H₀ (Itl K a) ⟨ws, some (j, .lst ws)⟩ where
  go := fun μ s σ H i w pre _ _ I k hw => by
    obtain ⟨vs, e, rs⟩ := keptList hμ pre I k
    obtain ⟨v, hv, rv⟩ := SimWs_get rs hw
    refine ⟨⟨vs, v, .inl (.inl e), hv⟩, fun x H' y => ?_⟩
    obtain ⟨e1, y⟩ := y
    subst e1
    have := y vs (.inl (.inl e))
    rw [hv] at this
    cases this
    exact ⟨.refl I, rv⟩
  stop := fun μ s σ H pre _ _ I k => by
    obtain ⟨vs, e, rs⟩ := keptList hμ pre I k
    exact ⟨vs, .inl (.inl e), by rw [← SimWs_len rs]; exact Nat.le_refl _⟩
theorem good_tup {a : Addr} {vs : List V} {ws : List W} (ha : SqT K H₀ a vs) (rs : SimWs K μ₀ H₀ ws vs) : Good P K μ₀ H₀ (Itt K a) ⟨ws, none⟩ where
  go := fun μ s σ H i w pre t _ I k hw => by
    obtain ⟨v, hv, rv⟩ := SimWs_get (rs.mono t pre) hw
    refine ⟨⟨vs, v, t.tup _ _ ha, hv⟩, fun x H' y => ?_⟩
    obtain ⟨e1, y⟩ := y
    subst e1
    have := y vs (t.tup _ _ ha)
    rw [hv] at this
    cases this
    exact ⟨.refl I, rv⟩
  stop := fun μ s σ H pre t _ I k => ⟨vs, t.tup _ _ ha, by rw [← SimWs_len rs]; exact Nat.le_refl _⟩
theorem good_scr {a : Addr} {ns : List Int} (ha : FzL K H₀ a (ns.map V.int)) : Good P K μ₀ H₀ (Itl K a) ⟨ns.map fun i => .d (.int i), none⟩ where
  go := fun μ s σ H i w pre t _ I k hw => by
    have hw : (ns.map fun i => W.d (.int i))[i]? = some w := hw
    rw [List.getElem?_map] at hw
    obtain ⟨n, e1, rfl⟩ := Option.map_eq_some_iff.mp hw
    have hv : (ns.map V.int)[i]? = some (V.int n) := by rw [List.getElem?_map, e1]; rfl
    refine ⟨⟨_, _, (t.fz _ _ ha).sq, hv⟩, fun x H' y => ?_⟩
    obtain ⟨e1, y⟩ := y
    subst e1
    have := y _ (t.fz _ _ ha).sq
    rw [hv] at this
    cases this
    exact ⟨.refl I, .d (.int n)⟩
  stop := fun μ s σ H pre t _ I k => ⟨_, (t.fz _ _ ha).sq, by show (ns.map V.int).length ≤ (ns.map _).length; simp⟩
theorem good_rng {lo : Int} {n : Nat} : Good P K μ₀ H₀ (Itr lo n) ⟨uptoN lo n, none⟩ where
  go := fun μ s σ H i w pre t _ I k hw => by
    have hw : (uptoN lo n)[i]? = some w := hw
    unfold uptoN at hw
    rw [List.getElem?_map] at hw
    obtain ⟨j, e1, e2⟩ := Option.map_eq_some_iff.mp hw
    obtain ⟨hi, e3⟩ := List.getElem?_eq_some_iff.mp e1
    have hi' : i < n := by simpa using hi
    simp at e3
    subst e3
    refine ⟨hi', fun x H' y => ?_⟩
    obtain ⟨e1, y⟩ := y
    subst e1 y e2
    exact ⟨.refl I, .d (.int _)⟩
  stop := fun μ s σ H pre t _ I k => by show n ≤ (uptoN lo n).length; simp [uptoN]
theorem good_str {a : List Nat} (ha : ∀ c ∈ a, c < 0x110000) : Good P K μ₀ H₀ (Its (sig a)) ⟨a.map fun c => .d (.str [c]), none⟩ where
  go := fun μ s σ H i w pre t _ I k hw => by
    have hw : (a.map fun c => W.d (.str [c]))[i]? = some w := hw
    rw [List.getElem?_map] at hw
    obtain ⟨c, e1, e2⟩ := Option.map_eq_some_iff.mp hw
    subst e2
    refine ⟨?_, fun x H' y => ?_⟩
    · show i < a.toArray.size
      simpa using (List.getElem?_eq_some_iff.mp e1).1
    · obtain ⟨e, c', e3, e4⟩ := y
      subst e e4
      have e3 : a[i]? = some c' := by simpa using e3
      rw [e1] at e3
      cases e3
      exact ⟨.refl I, .d (.str [c] fun d hd => by simp only [List.mem_singleton] at hd; subst hd; exact ha _ (List.mem_of_getElem? e1))⟩
  stop := fun μ s σ H pre t _ I k => by
    show a.toArray.size ≤ (a.map _).length
    simp
theorem enumL_len : ∀ (ws : List W) (k : Nat), (enumL k ws).length = ws.length
  | [], _ => rfl
  | _ :: ws, k => by simp [enumL, enumL_len ws]
theorem enumL_get : ∀ (ws : List W) (k i : Nat), (enumL k ws)[i]? = (ws[i]?).map fun w => mkTup [.d (.int ((k + i : Nat) : Int)), w]
  | [], _, _ => by simp [enumL]
  | w :: ws, k, 0 => by simp [enumL]
  | w :: ws, k, i + 1 => by
    simp only [enumL, List.getElem?_cons_succ]
    rw [enumL_get ws (k + 1) i]
    have : k + 1 + i = k + (i + 1) := by omega
    rw [this]
theorem pairNew {T : Addr} {x : V} {i : Nat} {w : W} (I : Sim P K μ s σ H) (hT : H T = none) (r : SimW K μ H w x) : Aft P K μ s σ H μ s (upd H T (.tup [.int (i : Nat), x])) ∧ SimW K μ (upd H T (.tup [.int (i : Nat), x])) (mkTup [.d (.int (i : Nat)), w]) (.ref T) :=
  newTup I (.cons (.d (.int _)) (.cons r .nil)) hT
theorem good_enumL {a : Addr} {j : Nat} {ws : List W} (hμ : μ₀[j]? = some a) : Good P K μ₀ H₀ (Ite K a) ⟨enumL 0 ws, some (j, .lst ws)⟩ where
  go := fun μ s σ H i w pre _ _ I k hw => by
    obtain ⟨vs, e, rs⟩ := keptList hμ pre I k
    have hw : (enumL 0 ws)[i]? = some w := hw
    rw [enumL_get] at hw
    obtain ⟨w', e1, e2⟩ := Option.map_eq_some_iff.mp hw
    obtain ⟨v, hv, rv⟩ := SimWs_get rs e1
    refine ⟨⟨vs, v, .inl (.inl e), hv⟩, fun x H' y => ?_⟩
    obtain ⟨T, x', rfl, hT, rfl, y⟩ := y
    have := y vs (.inl (.inl e))
    rw [hv] at this
    cases this
    subst e2
    rw [Nat.zero_add]
    exact pairNew I hT rv
  stop := fun μ s σ H pre _ _ I k => by
    obtain ⟨vs, e, rs⟩ := keptList hμ pre I k
    exact ⟨vs, .inl (.inl e), by show vs.length ≤ (enumL 0 ws).length; rw [enumL_len, SimWs_len rs]; exact Nat.le_refl _⟩
theorem good_enumT {a : Addr} {vs : List V} {ws : List W} (ha : SqT K H₀ a vs) (rs : SimWs K μ₀ H₀ ws vs) : Good P K μ₀ H₀ (IteT K a) ⟨enumL 0 ws, none⟩ where
  go := fun μ s σ H i w pre t _ I k hw => by
    have hw : (enumL 0 ws)[i]? = some w := hw
    rw [enumL_get] at hw
    obtain ⟨w', e1, e2⟩ := Option.map_eq_some_iff.mp hw
    obtain ⟨v, hv, rv⟩ := SimWs_get (rs.mono t pre) e1
    refine ⟨⟨vs, v, t.tup _ _ ha, hv⟩, fun x H' y => ?_⟩
    obtain ⟨T, x', rfl, hT, rfl, y⟩ := y
    have := y vs (t.tup _ _ ha)
    rw [hv] at this
    cases this
    subst e2
    rw [Nat.zero_add]
    exact pairNew I hT rv
  stop := fun μ s σ H pre t _ I k => ⟨vs, t.tup _ _ ha, by show vs.length = (enumL 0 ws).length; rw [enumL_len, SimWs_len rs]⟩
end
section
variable {X : Cx} {P : Pr} {Wx : WX} {pos pos' p p2 tpos : Pos} {a b c e o i tg : PySem.Expr} {ca cb cc co : Ex} {vs : List Nat} {t : Tg} {es elts : List PySem.Expr} {kk : Nat}
/-- what itR gives -/
theorem itR_list {K : PySem.W.Frag} {μ : List Addr} {s : S} {σ : L2.St} {H : Hp} {μ₁ : List Addr} {s₁ : S} {H₁ : Hp} {r : R} {v : V} {ws : List W} {it : Mn.It} {s2 : S} (A : Aft P K μ₁ s₁ σ H₁ μ s H) (h : RepR P K μ s σ H r v) (f : Frs H₁ r v) (q : seqR s r = some (true, ws)) (e : itR r s = .ok it s2) :
    ∃ a j μ2 vs, v = .ref a ∧ it = ⟨ws, some (j, .lst ws)⟩ ∧ μ2[j]? = some a ∧ H a = some (.lst vs) ∧ Aft P K μ₁ s₁ σ H₁ μ2 s2 H := by
  obtain ⟨a, vs, rfl, rs, ha⟩ := A.sim.seq h q
  unfold itR at e
  simp only [q] at e
  split at e <;> first | (cases e; done) | skip
  rename_i j s3 q2
  cases e
  obtain ⟨μ2, B, sw⟩ := A.sim.box h q2
  refine ⟨a, j, μ2, vs, rfl, rfl, ?_, ha, B.aft A fun b hb => ?_⟩
  · cases sw; assumption
  · obtain ⟨⟨o, rfl⟩, e3⟩ := hb
    cases e3
    exact f
theorem i_seq (he : PE X e (tE P X.K Wx ca)) : PI X tg e (tI P X.K Wx (itE ca)) := PI_imp (PI_or (pi_list he) (PI_or (pi_tup he) (pi_str he))) fun σ H R h => by
  obtain ⟨μ, s, I, h⟩ := h
  have h := Pst.bind h
  cases q : ca s with
  | bad => rw [q] at h; exact h.elim
  | exc c xs s1 =>
    rw [q] at h
    exact .inl ⟨μ, s, I, by rw [q]; exact h⟩
  | ok r s1 =>
    rw [q] at h
    have h : ∀ μ' H', Aft P X.K μ s σ H μ' s1 H' → Pst P X.K Wx μ s σ H (itR r s1) fun i s' μ' H' => ∀ J, Good P X.K μ' H' J i → R J H' := h
    cases q2 : seqR s1 r with
    | some p =>
      obtain ⟨k, ws⟩ := p
      cases k with
      | true =>
        refine .inl ⟨μ, s, I, ?_⟩
        rw [q]
        intro μ1 H1 A v rv fv
        have h := h μ1 H1 A
        cases q3 : itR r s1 with
        | bad => rw [q3] at h; exact h.elim
        | exc c xs s2 =>
          unfold itR at q3
          simp only [q2] at q3
          split at q3 <;> cases q3
        | ok it s2 =>
          rw [q3] at h
          obtain ⟨a, j, μ2, vs, rfl, rfl, hμ, ha, A2⟩ := itR_list A rv fv q2 q3
          exact ⟨a, rfl, ⟨vs, .inl (.inl ha)⟩, h μ2 H1 A2 _ (good_list hμ)⟩
      | false =>
        refine .inr (.inl ⟨μ, s, I, ?_⟩)
        rw [q]
        intro μ1 H1 A v rv fv
        have h := h μ1 H1 A
        have e : itR r s1 = .ok ⟨ws, none⟩ s1 := by unfold itR; simp only [q2]
        rw [e] at h
        obtain ⟨a, vs, rfl, rs, ha⟩ := A.sim.seq rv q2
        exact ⟨a, rfl, ⟨vs, ha⟩, h μ1 H1 A _ (good_tup ha rs)⟩
    | none =>
      by_cases hs : ∃ ns, r = .w (.scr ns)
      · obtain ⟨ns, rfl⟩ := hs
        refine .inl ⟨μ, s, I, ?_⟩
        rw [q]
        intro μ1 H1 A v rv fv
        have h := h μ1 H1 A
        unfold itR at h
        simp only [q2] at h
        cases (show SimW X.K μ1 H1 (.scr ns) v from rv) with
        | @scr a _ fz => exact ⟨a, rfl, ⟨_, fz.sq⟩, h μ1 H1 A _ (good_scr fz)⟩
      refine .inr (.inr ⟨μ, s, I, ?_⟩)
      rw [q]
      intro μ1 H1 A v rv fv
      have hh := h μ1 H1 A
      clear h
      unfold itR at hh
      simp only [q2] at hh
      cases r with
      | new o => exact hh.elim
      | slot i => exact hh.elim
      | w y =>
        cases y with
        | ref _ => exact hh.elim
        | tup _ => exact hh.elim
        | scr ns => exact absurd ⟨ns, rfl⟩ hs
        | d y =>
          cases y <;> first | exact hh.elim | skip
          rename_i l
          simp only at hh
          by_cases hl : l.length ≤ LN
          · rw [if_pos hl] at hh
            obtain ⟨e1, ok⟩ := rep_str rv
            exact ⟨sig l, e1, hh μ1 H1 A _ (good_str ok)⟩
          · rw [if_neg hl] at hh
            exact hh.elim
theorem i_rng1 (hg : Gl X "range") (hm : X.mg "range" = none) (ha : PE X a (tE P X.K Wx ca)) (he : starEach [a] X.env = (false, eval a X.env) :: starEach [] X.env := by rfl) (hs : starEach [a] X.env = [(false, eval a X.env)] := by rfl) :
    PI X tg (.Call (.Name "range" p) [a] [] pos) (tI P X.K Wx (itR1 ca)) := PI_imp (pi_range1 hg hm (pa_cons ha pa_nil he) hs) fun σ H R h => by
  obtain ⟨μ, s, I, h⟩ := h
  refine ⟨μ, s, I, (Pst.bind h).mono fun r s1 μ1 H1 A h v rv fv => ?_⟩
  split at h <;> first | exact h.elim | skip
  rename_i n
  by_cases hn : small n = true
  · rw [if_pos hn] at h
    simp only [small, Bool.and_eq_true, decide_eq_true_eq] at hn
    cases rep_int rv
    exact ⟨n, rfl, hn.1, hn.2, h μ1 H1 A _ good_rng⟩
  · rw [if_neg hn] at h; exact h.elim
theorem i_rng2 (hg : Gl X "range") (hm : X.mg "range" = none) (ha : PE X a (tE P X.K Wx ca)) (hb : PE X b (tE P X.K Wx cb)) (he : starEach [a, b] X.env = (false, eval a X.env) :: starEach [b] X.env := by rfl) (he2 : starEach [b] X.env = (false, eval b X.env) :: starEach [] X.env := by rfl)
    (hs : starEach [a, b] X.env = [(false, eval a X.env), (false, eval b X.env)] := by rfl) (hs2 : starEach [b] X.env = [(false, eval b X.env)] := by rfl) :
    PI X tg (.Call (.Name "range" p) [a, b] [] pos) (tI P X.K Wx (itR2 ca cb)) := PI_imp (pi_range2 hg hm (pa_cons ha (pa_cons hb pa_nil he2) he) hs hs2) fun σ H R h => by
  obtain ⟨μ, s, I, h⟩ := h
  refine ⟨μ, s, I, (Pst.bind h).mono fun r s1 μ1 H1 A h v rv fv => ?_⟩
  refine ⟨μ1, s1, A.sim, ((Pst.bind h).from A).mono fun q s2 μ2 H2 B h u ru fu => ?_⟩
  have hr : ∃ m n, r = iR m ∧ q = iR n := by
    split at h <;> first | exact h.elim | exact ⟨_, _, rfl, rfl⟩
  obtain ⟨m, n, rfl, rfl⟩ := hr
  have h : Pst P X.K Wx μ s σ H (if small m && small n then Res.ok (Mn.It.mk (uptoN m (n - m).toNat) none) s2 else .bad) fun i s' μ' H' => ∀ (J : L2.It), Good P X.K μ' H' J i → R J H' := h
  by_cases hn : (small m && small n) = true
  · rw [if_pos hn] at h
    simp only [small, Bool.and_eq_true, decide_eq_true_eq] at hn
    cases rep_int rv
    cases rep_int ru
    exact ⟨m, n, rfl, ⟨hn.1.1, hn.1.2, hn.2.1, hn.2.2⟩, h μ2 H2 (A.trans B) _ good_rng⟩
  · rw [if_neg hn] at h; exact h.elim
theorem i_enum (hg : Gl X "enumerate") (hm : X.mg "enumerate" = none) (ha : PE X a (tE P X.K Wx ca)) (he : starEach [a] X.env = (false, eval a X.env) :: starEach [] X.env := by rfl) (hs : starEach [a] X.env = [(false, eval a X.env)] := by rfl) :
    PI X (.Tuple elts kk tpos) (.Call (.Name "enumerate" p) [a] [] pos) (tI P X.K Wx (itEnum ca)) := PI_imp (PI_or (pi_enum hg hm (pa_cons ha pa_nil he) hs) (pi_enumT hg hm (pa_cons ha pa_nil he) hs)) fun σ H R h => by
  obtain ⟨μ, s, I, h⟩ := h
  have h := Pst.bind h
  cases q : ca s with
  | bad => rw [q] at h; exact h.elim
  | exc c xs s1 =>
    rw [q] at h
    exact .inl ⟨μ, s, I, by rw [q]; exact h⟩
  | ok r s1 =>
    rw [q] at h
    have h : ∀ μ' H', Aft P X.K μ s σ H μ' s1 H' → Pst P X.K Wx μ s σ H (match seqR s1 r with
      | some _ => (itR r s1).bind fun i s2 => .ok ⟨enumL 0 i.items, i.keep⟩ s2
      | none => .bad) fun i s' μ' H' => ∀ J, Good P X.K μ' H' J i → R J H' := h
    cases q2 : seqR s1 r with
    | some p =>
      rw [q2] at h
      obtain ⟨k, ws⟩ := p
      cases k with
      | true =>
        refine .inl ⟨μ, s, I, ?_⟩
        rw [q]
        intro μ1 H1 A v rv fv
        have h := h μ1 H1 A
        cases q3 : itR r s1 with
        | bad => rw [q3] at h; exact h.elim
        | exc c xs s2 =>
          unfold itR at q3
          simp only [q2] at q3
          split at q3 <;> cases q3
        | ok it s2 =>
          rw [q3] at h
          obtain ⟨a, j, μ2, vs, rfl, rfl, hμ, ha, A2⟩ := itR_list A rv fv q2 q3
          exact ⟨a, vs, rfl, .inl (.inl ha), h μ2 H1 A2 _ (good_enumL hμ)⟩
      | false =>
        refine .inr ⟨μ, s, I, ?_⟩
        rw [q]
        intro μ1 H1 A v rv fv
        have h := h μ1 H1 A
        have e : itR r s1 = .ok ⟨ws, none⟩ s1 := by unfold itR; simp only [q2]
        rw [e] at h
        obtain ⟨a, vs, rfl, rs, ha⟩ := A.sim.seq rv q2
        exact ⟨a, vs, rfl, ha, h μ1 H1 A _ (good_enumT ha rs)⟩
    | none =>
      rw [q2] at h
      refine .inl ⟨μ, s, I, ?_⟩
      rw [q]
      exact fun μ1 H1 A => (h μ1 H1 A).elim
/-! ### for -/
theorem for_of {K : PySem.W.Frag} {cb : Mn.St} {μ : List Addr} {s : S} {σ : L2.St} {H : Hp} {D : Ends} {it : Mn.It} {J : L2.It} (G : Good P K μ H J it) (I : Sim P K μ s σ H) (h : PstS P K Wx μ s σ H (forL it.keep t cb it.items s) D) :
    ∃ W : Nat → Nat → L2.St → Hp → Prop, (∃ m, W 0 m σ H) ∧ ∀ i m σ H, W i m σ H →
      (J.stop i H ∧ D.nx σ H) ∨ (J.go i H ∧ ∃ N : L2.St → Hp → Prop, (∀ σ' H', N σ' H' → ∃ m', m' < m ∧ W (i + 1) m' σ' H') ∧ ∀ x H', J.yld i H x H' → tG P K vs t x σ H' fun σ2 H2 => tS P K Wx cb { D with nx := N, ct := N, bk := D.nx } σ2 H2) := by
  refine ⟨fun i m σ' H' => m = it.items.length - i ∧ i ≤ it.items.length ∧ ∃ μ' s', AftS P K μ s σ H μ' s' σ' H' ∧ PstS P K Wx μ s σ H (forL it.keep t cb (it.items.drop i) s') D, ⟨it.items.length, by simp, Nat.zero_le _, μ, s, .refl I, h⟩, ?_⟩
  rintro i m σ' H' ⟨rfl, hi, μ', s', A, h⟩
  have tt : Tups K H H' := I.tups A.step
  by_cases hlt : i < it.items.length
  · right
    have hx : it.items[i]? = some it.items[i] := List.getElem?_eq_getElem hlt
    rw [List.drop_eq_getElem_cons hlt] at h
    have h : PstS P K Wx μ s σ H (if kept s' it.keep then (match t (.w it.items[i]) s' with
      | some s1 => turnO (forL it.keep t cb (it.items.drop (i + 1))) (cb s1)
      | none => .bad) else .bad) D := h
    by_cases hk : kept s' it.keep = true
    · rw [if_pos hk] at h
      obtain ⟨g1, g2⟩ := G.go μ' s' σ' H' i _ A.pre tt A.step.frz A.sim hk hx
      refine ⟨g1, fun σ'' H'' => ∃ μ'' s'', AftS P K μ s σ H μ'' s'' σ'' H'' ∧ PstS P K Wx μ s σ H (forL it.keep t cb (it.items.drop (i + 1)) s'') D, fun σ'' H'' n => ?_, fun x H'' y => ?_⟩
      · obtain ⟨μ'', s'', B, n⟩ := n
        exact ⟨it.items.length - (i + 1), by omega, rfl, hlt, μ'', s'', B, n⟩
      · obtain ⟨B, rx⟩ := g2 x H'' y
        cases q : t (.w it.items[i]) s' with
        | none => rw [q] at h; exact h.elim
        | some s2 =>
          rw [q] at h
          have AB := A.trans B.toS
          refine ⟨_, _, _, _, μ', s', .w it.items[i], s2, AB, rx, trivial, q, fun μ2 σ2 C _ => ⟨μ2, s2, C.sim, ?_⟩⟩
          exact PstS.from C (PstS.turn h)
    · rw [if_neg hk] at h; exact h.elim
  · left
    have e : i = it.items.length := by omega
    subst e
    rw [List.drop_length] at h
    have h : PstS P K Wx μ s σ H (if kept s' it.keep then .nx s' else .bad) D := h
    by_cases hk : kept s' it.keep = true
    · rw [if_pos hk] at h
      exact ⟨G.stop μ' s' σ' H' A.pre tt A.step.frz A.sim hk, h μ' σ' H' A⟩
    · rw [if_neg hk] at h; exact h.elim
theorem c_for {ci : S → Res Mn.It} {cb : Mn.St} {body : List PySem.Stmt} (hp : PassesOwn (model X.prog X.w) X.A X.env X.xe) (hc : X.calm = true) (hi : PI X tg e (tI P X.K Wx ci)) (hg : PG X tg (tG P X.K vs t)) (hb : PSs X body (tS P X.K Wx cb))
    (hs : ∀ x, foldedSetIterable e X.env x = pure x := by intro _; rfl) : PS X (.For tg e body [] pos) (tS P X.K Wx (forS ci t cb)) := PS_imp (ps_for hp hc hi hg hb hs) fun D σ H h => by
  obtain ⟨μ, s, I, h⟩ := h
  refine ⟨μ, s, I, (PstS.res h).mono fun i s1 μ1 H1 A h J G => ?_⟩
  exact for_of G A.sim (PstS.from A.toS h)
end
end Mn

end
section
set_option Elab.async false
set_option linter.all false
set_option maxRecDepth 100000
set_option maxHeartbeats 4000000
/-! MnRule8: for over a dict, comprehensions. -/
namespace Mn
open PySem PySem.Spec PyProof.Rows L2
section
variable {P : Pr} {K : PySem.W.Frag} {μ μ' μ₀ : List Addr} {s s' : S} {σ σ' : L2.St} {H H' H₀ : Hp}
/-! ### the dict that a slot holds -/
theorem pull_ok {i j : Nat} {s1 : S} (I : Sim P K μ s σ H) (e : pullS i s = some (j, s1)) : ∃ μ1 a, σ[i]? = some (some (V.ref a)) ∧ μ1[j]? = some a ∧ Aft P K μ s σ H μ1 s1 H := by
  unfold pullS at e
  split at e <;> first | (cases e; done) | skip
  · rename_i o q
    cases e
    obtain ⟨v, ev, r⟩ := paired_get I.env q
    cases v with
    | none => exact r.elim
    | some v =>
      have rr : RepR P K μ s σ H (.slot i) v := ⟨ev, _, q, rfl⟩
      have eb : boxR (.slot i) s = some (.ref s.h.length, ⟨s.ρ.set i (.w (.ref s.h.length)), s.h ++ [o]⟩) := by
        show (match s.ρ[i]? with
          | some (.own o) => some (W.ref s.h.length, (⟨s.ρ.set i (.w (.ref s.h.length)), s.h ++ [o]⟩ : S))
          | some (.w x) => some (x, s)
          | _ => none) = _
        rw [q]
      obtain ⟨μ1, B, sw⟩ := I.box rr eb
      cases sw with
      | @ref _ a ha => exact ⟨μ1, a, ev, ha, B.aft (.refl I) fun b hb => by obtain ⟨⟨o, z⟩, _⟩ := hb; cases z⟩
  · rename_i j' q
    cases e
    obtain ⟨v, ev, r⟩ := paired_get I.env q
    cases v with
    | none => exact r.elim
    | some v =>
      cases (show SimW K μ H (.ref j) v from r) with
      | @ref _ a ha => exact ⟨μ, a, ev, ha, .refl I⟩
theorem good_keys {a : Addr} {kvs : List (D × W)} {ps : List (Key × V)} {od : Obj} {k : Option (Nat × O)} (hk : SimK K μ₀ H₀ kvs ps) (st : H₀ a = some (.frz od (.dK ps))) : Good P K μ₀ H₀ (Itk a od ps) ⟨kvs.map fun q => W.d q.1, k⟩ where
  go := fun μ s σ H i w pre t fz I _ hw => by
    have hw : (kvs.map fun q => W.d q.1)[i]? = some w := hw
    rw [List.getElem?_map] at hw
    obtain ⟨q, e1, rfl⟩ := Option.map_eq_some_iff.mp hw
    obtain ⟨p, e2, r1, r2, r3⟩ := paired_get hk e1
    refine ⟨⟨fz _ _ _ st, (List.getElem?_eq_some_iff.mp e2).1⟩, fun x H' y => ?_⟩
    obtain ⟨e3, k, v, e4, e5⟩ := y
    subst e3 e5
    rw [e2] at e4
    cases e4
    exact ⟨.refl I, .d (r3.mono t)⟩
  stop := fun μ s σ H pre t fz I _ => ⟨fz _ _ _ st, by show ps.length ≤ (kvs.map fun q => W.d q.1).length; rw [List.length_map, Paired.length hk]; exact Nat.le_refl _⟩
/-- the locked dict opens again -/
theorem Aft.thaw {σ₁ : L2.St} {μ1 : List Addr} {s1 s'' : S} {a : Addr} {j : Nat} {kvs : List (D × W)} {ps : List (Key × V)} {od : Obj} (A : Aft P K μ s σ H μ1 s1 H₀) (ha : H₀ a = some (.dK ps)) (hμ : μ1[j]? = some a)
    (B : AftS P K μ1 ⟨s1.ρ, s1.h.set j (.dct true kvs)⟩ σ (upd H₀ a (.frz od (.dK ps))) μ' s' σ₁ H') (e : thaw j kvs s' = some s'') (hk : SimK K μ1 H₀ kvs ps) :
    H' a = some (.frz od (.dK ps)) ∧ Tups K H' (upd H' a (.dK ps)) ∧ AftS P K μ s σ H μ' s'' σ₁ (upd H' a (.dK ps)) := by
  have fz : H' a = some (.frz od (.dK ps)) := B.step.frz a od _ upd_same
  unfold Mn.thaw at e
  split at e <;> cases e
  rename_i q
  have hμ' : μ'[j]? = some a := pre_get B.pre hμ
  have fa : foot μ1 s1 σ a := .inl (List.mem_of_getElem? hμ)
  have t2 : Tups K H' (upd H' a (.dK ps)) := tups_of (fun b xs r => by
    have hb : b ≠ a := fun z => by
      subst z
      rcases r with r | ⟨o, r⟩
      · rw [fz] at r; cases r
      · rw [fz] at r; injection r with r; injection r with _ r; cases r
    rcases r with r | ⟨o, r⟩
    · exact .inl (by rw [upd_ne hb]; exact r)
    · exact .inr ⟨o, by rw [upd_ne hb]; exact r⟩) fun b o xs e => by
      rw [upd_ne fun z => by subst z; rw [fz] at e; injection e with e; injection e with _ e; cases e]; exact e
  have lock : Tups K H₀ (upd H₀ a (.frz od (.dK ps))) := tups_of (fun b xs r => by
    have hb : b ≠ a := fun z => by
      subst z
      rcases r with r | ⟨o, r⟩
      · rw [ha] at r; cases r
      · rw [ha] at r; cases r
    rcases r with r | ⟨o, r⟩
    · exact .inl (by rw [upd_ne hb]; exact r)
    · exact .inr ⟨o, by rw [upd_ne hb]; exact r⟩) fun b o xs e => by rw [upd_ne fun z => by subst z; rw [ha] at e; cases e]; exact e
  have t1 : Tups K (upd H₀ a (.frz od (.dK ps))) H' := tups_of (fun b xs r => by
    have hb : b ≠ a := fun z => by
      subst z
      rcases r with r | ⟨o, r⟩
      · rw [upd_same] at r; cases r
      · rw [upd_same] at r; injection r with r; injection r with _ r; cases r
    have nf : ¬ foot μ1 s1 σ b := fun z => by
      have := (A.sim.notup z).1 xs
      rcases r with r | ⟨o, r⟩
      · rw [upd_ne hb] at r; exact this (.inl r)
      · rw [upd_ne hb] at r; exact this (.inr ⟨o, r⟩)
    rcases r with r | ⟨o, r⟩
    · exact .inl (B.step.keep b _ r nf)
    · exact .inr ⟨o, B.step.keep b _ r nf⟩) fun b o xs e => B.step.frz b o _ e
  obtain ⟨w1, w2, w3⟩ := B.sim.writeA (x := .hp j) (o := .dct true kvs) (o' := .dct false kvs) (a := a) (u := .dK ps) q hμ' ⟨ps, upd_same, hk.mono (lock.trans (t1.trans t2)) B.pre⟩
  refine ⟨fz, t2, w1, A.pre.trans B.pre, ⟨fun b o eb nb => ?_, fun b hb => ?_, fun b eb => ?_, fun b f u eb => ?_⟩⟩
  · have e0 := A.step.keep b o eb nb
    have nf : ¬ foot μ1 s1 σ b := fun z => by
      rcases A.step.new b z with z | z
      · exact nb z
      · rw [eb] at z; cases z
    have hb : b ≠ a := fun z => by subst z; exact nf fa
    rw [upd_ne hb]
    exact B.step.keep b o (by rw [upd_ne hb]; exact e0) nf
  · rcases B.step.new b (w2 b hb) with z | z
    · exact A.step.new b z
    · right
      have hb : b ≠ a := fun y => by subst y; rw [upd_same] at z; cases z
      rw [upd_ne hb] at z
      exact A.step.live b z
  · have hb : b ≠ a := fun y => by subst y; rw [upd_same] at eb; cases eb
    rw [upd_ne hb] at eb
    have := B.step.live b eb
    rw [upd_ne hb] at this
    exact A.step.live b this
  · have e0 := A.step.frz b f u eb
    have hb : b ≠ a := fun y => by subst y; rw [ha] at e0; cases e0
    rw [upd_ne hb]
    exact B.step.frz b f u (by rw [upd_ne hb]; exact e0)
end
section
variable {X : Cx} {P : Pr} {Wx : WX} {pos pos' p p2 tpos : Pos} {a b c e o tg : PySem.Expr} {ca cb cc co : Ex} {vs : List Nat} {t : Tg}
theorem c_forD {i : Nat} {x : PySem.Str} {cb : Mn.St} {body : List PySem.Stmt} (hp : PassesOwn (model X.prog X.w) X.A X.env X.xe) (hc : X.calm = true) (hN : X.N[i]? = some x) (hv : Vis X.env.scope x) (hg : PG X tg (tG P X.K vs t)) (hb : PSs X body (tS P X.K Wx cb))
    (hd : (x == ("__debug__" : PySem.Str)) = false := by decide) (hcd : (x == ("__classdict__" : PySem.Str)) = false := by decide)
    (hs : ∀ y, foldedSetIterable (.Name x p) X.env y = pure y := by intro _; rfl) : PS X (.For tg (.Name x p) body [] pos) (tS P X.K Wx (forD i t cb)) :=
  PS_imp (ps_lock (ps_for hp hc (pi_keys (pe_var hN hv hd hcd)) hg hb hs)) fun D σ H h => by
  obtain ⟨μ, s, I, h⟩ := h
  unfold forD at h
  cases q : pullS i s with
  | none => rw [q] at h; exact h.elim
  | some y =>
    obtain ⟨j, s1⟩ := y
    rw [q] at h
    obtain ⟨μ1, a, hσ, hμ, A⟩ := pull_ok I q
    simp only at h
    split at h <;> first | exact h.elim | skip
    rename_i kvs q2
    obtain ⟨a', ha', ps, ea, hk⟩ := paired_get A.sim.heap q2
    rw [hμ] at ha'
    cases ha'
    refine ⟨a, .dK ps, ea, trivial, fun od => ⟨.ref a, hσ, a, od, rfl, .inl ⟨ps, upd_same, ?_⟩⟩⟩
    have new : SimO P X.K μ1 (upd H a (.frz od (.dK ps))) (.dct true kvs) a := ⟨ps, od, upd_same, hk.mono (tups_upd A.sim (.inl (List.mem_of_getElem? hμ))) (List.prefix_refl _)⟩
    have L := A.sim.write (x := .hp j) q2 (fun _ z => nomatch z) hμ new
    have hk' : SimK X.K μ1 (upd H a (.frz od (.dK ps))) kvs ps := hk.mono (tups_upd A.sim (.inl (List.mem_of_getElem? hμ))) (List.prefix_refl _)
    have G : Good P X.K μ1 (upd H a (.frz od (.dK ps))) (Itk a od ps) ⟨kvs.map fun q => W.d q.1, some (j, .dct true kvs)⟩ := good_keys hk' upd_same
    refine for_of (s := ⟨s1.ρ, s1.h.set j (.dct true kvs)⟩) G L.sim ?_
    generalize forL (some (j, .dct true kvs)) t cb (kvs.map fun q => W.d q.1) ⟨s1.ρ, s1.h.set j (.dct true kvs)⟩ = out at h ⊢
    cases out with
    | bad => exact h
    | exc c xs s' => exact h.elim
    | nx s' =>
      intro μ' σ' H' B
      have h : PstS P X.K Wx μ s σ H (ofOpt (thaw j kvs s')) D := h
      cases e : thaw j kvs s' with
      | none => rw [e] at h; exact h.elim
      | some s'' =>
        rw [e] at h
        obtain ⟨h1, _, h2⟩ := A.thaw ea hμ B e hk
        exact ⟨h1, h μ' σ' _ h2⟩
    | rt r s' =>
      intro μ' σ' H' v B rv fv
      unfold thawO at h
      cases r with
      | new o => exact h.elim
      | slot i => exact h.elim
      | w x =>
        cases e : thaw j kvs s' with
        | none => simp only [e] at h; exact h.elim
        | some s'' =>
          simp only [e] at h
          obtain ⟨h1, h3, h2⟩ := A.thaw ea hμ B e hk
          exact ⟨h1, h μ' σ' _ v h2 (SimW.mono h3 (List.prefix_refl _) rv) trivial⟩
    | bk s' =>
      intro μ' σ' H' B
      have h : PstS P X.K Wx μ s σ H (match thaw j kvs s' with
        | some s1 => .bk s1
        | none => .bad) D := h
      cases e : thaw j kvs s' with
      | none => rw [e] at h; exact h.elim
      | some s'' =>
        rw [e] at h
        obtain ⟨h1, _, h2⟩ := A.thaw ea hμ B e hk
        exact ⟨h1, h μ' σ' _ h2⟩
    | ct s' =>
      intro μ' σ' H' B
      have h : PstS P X.K Wx μ s σ H (match thaw j kvs s' with
        | some s1 => .ct s1
        | none => .bad) D := h
      cases e : thaw j kvs s' with
      | none => rw [e] at h; exact h.elim
      | some s'' =>
        rw [e] at h
        obtain ⟨h1, _, h2⟩ := A.thaw ea hμ B e hk
        exact ⟨h1, h μ' σ' _ h2⟩
end
end Mn

end
section
set_option Elab.async false
set_option linter.all false
set_option maxRecDepth 100000
set_option maxHeartbeats 4000000
/-! MnRule9: comprehensions. -/
namespace Mn
open PySem PySem.Spec PyProof.Rows L2
theorem wipeS_len (vs : List Nat) (ρ : List E0) : (Mn.wipe vs ρ).length = ρ.length := by
  induction vs with
  | nil => rfl
  | cons v vs ih => unfold Mn.wipe; rw [List.length_set, ih]
theorem wipeS_out {i : Nat} : ∀ {vs : List Nat} {ρ : List E0}, i ∉ vs → (Mn.wipe vs ρ)[i]? = ρ[i]?
  | [], _, _ => rfl
  | v :: vs, ρ, h => by
    unfold Mn.wipe
    rw [List.getElem?_set_ne (fun z => h (by simp [z])), wipeS_out fun z => h (List.mem_cons_of_mem _ z)]
theorem wipeS_in {i : Nat} : ∀ {vs : List Nat} {ρ : List E0}, i ∈ vs → i < ρ.length → (Mn.wipe vs ρ)[i]? = some .un
  | [], _, h, _ => by simp at h
  | v :: vs, ρ, h, hl => by
    unfold Mn.wipe
    by_cases e : v = i
    · subst e; rw [List.getElem?_set_self (by rw [wipeS_len]; exact hl)]
    · rw [List.getElem?_set_ne e]
      rcases List.mem_cons.mp h with h | h
      · exact absurd h.symm e
      · exact wipeS_in h hl
theorem wipeσ_out {i : Nat} : ∀ {vs : List Nat} {σ : L2.St}, i ∉ vs → (L2.wipe σ vs)[i]? = σ[i]?
  | [], _, _ => rfl
  | v :: vs, σ, h => by
    unfold L2.wipe
    rw [List.getElem?_set_ne (fun z => h (by simp [z])), wipeσ_out fun z => h (List.mem_cons_of_mem _ z)]
theorem wipeσ_idem (σ : L2.St) (vs : List Nat) : L2.wipe (L2.wipe σ vs) vs = L2.wipe σ vs := by
  refine List.ext_getElem? fun i => ?_
  have key : ∀ (us : List Nat) (τ : L2.St), (∀ k ∈ us, τ[k]? = some none ∨ τ[k]? = none) → L2.wipe τ us = τ := by
    intro us
    induction us with
    | nil => intro τ _; rfl
    | cons u us ih =>
      intro τ h
      unfold L2.wipe
      rw [ih τ fun k hk => h k (List.mem_cons_of_mem _ hk)]
      rcases h u List.mem_cons_self with q | q
      · obtain ⟨hu, e⟩ := List.getElem?_eq_some_iff.mp q
        rw [← e]; exact List.set_getElem_self hu
      · exact List.set_eq_of_length_le (List.getElem?_eq_none_iff.mp q)
  rw [key vs]
  intro k hk
  have inn : ∀ (us : List Nat), k ∈ us → (L2.wipe σ us)[k]? = some none ∨ (L2.wipe σ us)[k]? = none := by
    intro us
    induction us with
    | nil => intro h; simp at h
    | cons u us ih =>
      intro h
      unfold L2.wipe
      by_cases e : u = k
      · subst e
        by_cases hl : u < (L2.wipe σ us).length
        · left; rw [List.getElem?_set_self hl]
        · right; rw [List.getElem?_eq_none_iff, List.length_set]; omega
      · rw [List.getElem?_set_ne e]
        rcases List.mem_cons.mp h with h | h
        · exact absurd h.symm e
        · exact ih h
  exact inn vs hk
theorem restore_len (vs : List Nat) (ρ₀ ρ : List E0) : (restore vs ρ₀ ρ).length = ρ.length := by
  induction vs with
  | nil => rfl
  | cons v vs ih => unfold restore; rw [List.length_set, ih]
theorem restore_out {i : Nat} : ∀ {vs : List Nat} {ρ₀ ρ : List E0}, i ∉ vs → (restore vs ρ₀ ρ)[i]? = ρ[i]?
  | [], _, _, _ => rfl
  | v :: vs, ρ₀, ρ, h => by
    unfold restore
    rw [List.getElem?_set_ne (fun z => h (by simp [z])), restore_out fun z => h (List.mem_cons_of_mem _ z)]
theorem restore_in {i : Nat} : ∀ {vs : List Nat} {ρ₀ ρ : List E0}, i ∈ vs → i < ρ.length → (restore vs ρ₀ ρ)[i]? = some (ρ₀.getD i .un)
  | [], _, _, h, _ => by simp at h
  | v :: vs, ρ₀, ρ, h, hl => by
    unfold restore
    by_cases e : v = i
    · subst e; rw [List.getElem?_set_self (by rw [restore_len]; exact hl)]
    · rw [List.getElem?_set_ne e]
      rcases List.mem_cons.mp h with h | h
      · exact absurd h.symm e
      · exact restore_in h hl
theorem paired_of_get {α β : Type} {F : α → β → Prop} : ∀ {xs : List α} {ys : List β}, xs.length = ys.length → (∀ (i : Nat) x y, xs[i]? = some x → ys[i]? = some y → F x y) → Paired F xs ys
  | [], [], _, _ => .nil
  | [], _ :: _, h, _ => by simp at h
  | _ :: _, [], h, _ => by simp at h
  | x :: xs, y :: ys, h, g => .cons (g 0 x y rfl rfl) (paired_of_get (by simpa using h) fun i a b h1 h2 => g (i + 1) a b (by simpa using h1) (by simpa using h2))
theorem paired_two {α β : Type} {F : α → β → Prop} {xs : List α} {ys : List β} {i : Nat} {x : α} {y : β} (h : Paired F xs ys) (h1 : xs[i]? = some x) (h2 : ys[i]? = some y) : F x y := by
  obtain ⟨y', e, q⟩ := paired_get h h1
  rw [h2] at e
  cases e
  exact q
section
variable {P : Pr} {K : PySem.W.Frag} {μ μ' μ₀ : List Addr} {s s' : S} {σ σ' : L2.St} {H H' H₀ : Hp}
/-- slots forgotten -/
theorem Sim.wipe (I : Sim P K μ s σ H) (vs : List Nat) : Sim P K μ ⟨Mn.wipe vs s.ρ, s.h⟩ (L2.wipe σ vs) H ∧ ∀ i a, Owns ⟨Mn.wipe vs s.ρ, s.h⟩ (L2.wipe σ vs) i a → Owns s σ i a := by
  have sub : ∀ i a, Owns ⟨Mn.wipe vs s.ρ, s.h⟩ (L2.wipe σ vs) i a → Owns s σ i a := fun i a ⟨⟨o, h1⟩, h2⟩ => by
    have h1 : (Mn.wipe vs s.ρ)[i]? = some (.own o) := h1
    by_cases hi : i ∈ vs
    · by_cases hl : i < s.ρ.length
      · rw [wipeS_in hi hl] at h1; cases h1
      · rw [List.getElem?_eq_none_iff.mpr (by rw [wipeS_len]; omega)] at h1; cases h1
    · rw [wipeS_out hi] at h1
      rw [wipeσ_out hi] at h2
      exact ⟨⟨o, h1⟩, h2⟩
  refine ⟨⟨I.heap, paired_of_get (by show (Mn.wipe vs s.ρ).length = _; rw [wipeS_len, L2.wipe_length]; exact I.lenE) fun i x y h1 h2 => ?_, I.nd, fun i a z => I.apart i a (sub i a z), fun i j a z1 z2 => I.inj i j a (sub i a z1) (sub j a z2)⟩, sub⟩
  have h1 : (Mn.wipe vs s.ρ)[i]? = some x := h1
  by_cases hi : i ∈ vs
  · have hl : i < s.ρ.length := by
      have := (List.getElem?_eq_some_iff.mp h1).1
      rw [wipeS_len] at this
      exact this
    rw [wipeS_in hi hl] at h1
    cases h1
    trivial
  · rw [wipeS_out hi] at h1
    rw [wipeσ_out hi] at h2
    exact paired_two I.env h1 h2
theorem foot_sub {s1 : S} {σ1 : L2.St} (sub : ∀ i a, Owns s1 σ1 i a → Owns s σ i a) {a : Addr} (h : foot μ s1 σ1 a) : foot μ s σ a := h.elim .inl fun ⟨i, h⟩ => .inr ⟨i, sub i a h⟩
/-- a list of nobody's is written -/
theorem AftS.other {μ1 : List Addr} {s1 : S} {σ1 : L2.St} {D : Addr} {vs vs' : List V} (A : AftS P K μ s σ H μ1 s1 σ1 H') (h0 : H D = none) (hD : H' D = some (.lst vs)) (nf : ¬ foot μ1 s1 σ1 D) : Tups K H' (upd H' D (.lst vs')) ∧ AftS P K μ s σ H μ1 s1 σ1 (upd H' D (.lst vs')) := by
  have t : Tups K H' (upd H' D (.lst vs')) := tups_of (fun b xs r => by
    have hb : b ≠ D := fun z => by
      subst z
      rcases r with r | ⟨o, r⟩ <;> (rw [hD] at r; cases r)
    rcases r with r | ⟨o, r⟩
    · exact .inl (by rw [upd_ne hb]; exact r)
    · exact .inr ⟨o, by rw [upd_ne hb]; exact r⟩) fun b o xs e => by rw [upd_ne fun z => by subst z; rw [hD] at e; cases e]; exact e
  refine ⟨t, A.sim.over (fun a fa => upd_ne fun z => by subst z; exact nf fa) t (fun dx a e => by rw [upd_ne fun z => by subst z; rw [hD] at e; cases e]; exact e), A.pre, ⟨fun b o eb nb => ?_, A.step.new, fun b eb => ?_, fun b f u eb => ?_⟩⟩
  · rw [upd_ne fun z => by subst z; rw [h0] at eb; cases eb]
    exact A.step.keep b o eb nb
  · have hb : b ≠ D := fun z => by subst z; rw [upd_same] at eb; cases eb
    rw [upd_ne hb] at eb
    exact A.step.live b eb
  · rw [upd_ne fun z => by subst z; rw [h0] at eb; cases eb]
    exact A.step.frz b f u eb
end
/-- a target writes the slots vs alone -/
def TgOk (vs : List Nat) (t : Tg) : Prop := ∀ x s s', t (.w x) s = some s' → s'.h = s.h ∧ s'.ρ.length = s.ρ.length ∧ ∀ i, i ∉ vs → s'.ρ[i]? = s.ρ[i]?
theorem tgOk_v {vs : List Nat} {i : Nat} (h : i ∈ vs) : TgOk vs (tgV i) := fun x s s' e => by
  have e : (if i < s.ρ.length then some (⟨s.ρ.set i (.w x), s.h⟩ : S) else none) = some s' := e
  split at e <;> cases e
  exact ⟨rfl, List.length_set, fun j hj => List.getElem?_set_ne fun z => by subst z; exact hj h⟩
theorem tgsOk {vs : List Nat} : ∀ {ts : List Tg} {ws : List W} {s s' : S}, (∀ t ∈ ts, TgOk vs t) → tgs ts ws s = some s' → s'.h = s.h ∧ s'.ρ.length = s.ρ.length ∧ ∀ i, i ∉ vs → s'.ρ[i]? = s.ρ[i]?
  | [], [], s, s', _, e => by cases e; exact ⟨rfl, rfl, fun _ _ => rfl⟩
  | [], _ :: _, _, _, _, e => nomatch e
  | _ :: _, [], _, _, _, e => nomatch e
  | t :: ts, w :: ws, s, s', h, e => by
    have e : (match t (.w w) s with
      | some s1 => tgs ts ws s1
      | none => none) = some s' := e
    cases q : t (.w w) s with
    | none => rw [q] at e; cases e
    | some s1 =>
      rw [q] at e
      obtain ⟨h1, h2, h3⟩ := h t List.mem_cons_self w s s1 q
      obtain ⟨g1, g2, g3⟩ := tgsOk (fun t ht => h t (List.mem_cons_of_mem _ ht)) e
      exact ⟨g1.trans h1, g2.trans h2, fun i hi => (g3 i hi).trans (h3 i hi)⟩
theorem tgOk_t {vs : List Nat} {ts : List Tg} (h : ∀ t ∈ ts, TgOk vs t) : TgOk vs (tgT ts) := fun x s s' e => by
  have e : (match x.items with
    | some ws => tgs ts ws s
    | none => none) = some s' := e
  cases q : x.items with
  | none => rw [q] at e; cases e
  | some ws => rw [q] at e; exact tgsOk h e
def noW : WX := fun _ _ _ _ => False
def tTs (P : Pr) (K : PySem.W.Frag) (c : Tm) : TT := tT P K noW c
section
variable {X : Cx} {P : Pr} {Wx : WX} {pos pos' p p2 tpos : Pos} {elt iter tg : PySem.Expr} {ifs : List PySem.Expr} {ci : S → Res Mn.It} {ct : Tm} {ce : Ex} {vs : List Nat} {t : Tg} {scope : Scope} {own : List (PySem.Str × Nat)}
/-- a turn's invariant -/
def LcI (P : Pr) (K : PySem.W.Frag) (vs : List Nat) (μ1 : List Addr) (s1 : S) (σ : L2.St) (H1 : Hp) (D : Addr) (F : List W → S → Option (List W × S)) (r : Option (List W × S)) (H' : Hp) : Prop :=
  ∃ acc μ' s' σ' accV, L2.wipe σ' vs = L2.wipe σ vs ∧ AftS P K μ1 s1 σ H1 μ' s' σ' H' ∧ (∀ (i : Nat) e, i ∉ vs → s1.ρ[i]? = some e → e.obj = true → ∃ e', s'.ρ[i]? = some e' ∧ e'.obj = true) ∧
    H' D = some (.lst accV) ∧ SimWs K μ' H' acc accV ∧ ¬ foot μ' s' σ' D ∧ F acc s' = r ∧ r.isSome = true
theorem lc_of {K : PySem.W.Frag} {μ1 : List Addr} {s1 : S} {σ : L2.St} {H1 : Hp} {D : Addr} {it : Mn.It} {J : L2.It} {Q : Hp → Prop} {r : Option (List W × S)} (ht : TgOk vs t) (G : Good P K μ1 H1 J it) (I : Sim P K μ1 s1 σ H1) (hD : H1 D = none) (hr : r.isSome = true)
    (e : lcL it.keep t ct ce vs it.items [] s1 = r) (fin : ∀ H', LcI P K vs μ1 s1 σ H1 D (lcL it.keep t ct ce vs []) r H' → Q H') :
    ∃ W : Nat → Nat → Hp → Prop, (∃ m, W 0 m (upd H1 D (.lst []))) ∧ ∀ i m H, W i m H →
      (J.stop i H ∧ Q H) ∨ (J.go i H ∧ ∃ Nx : Hp → Prop, (∀ H', Nx H' → ∃ m', m' < m ∧ W (i + 1) m' H') ∧ ∀ x H', J.yld i H x H' → tG P K vs t x (L2.wipe σ vs) H' fun σ2 H2 => L2.wipe σ2 vs = L2.wipe σ vs ∧ tT P K noW ct σ2 H2 fun b H3 =>
        if b = true then tE P K noW ce σ2 H3 fun y H4 => ∃ acc, H4 D = some (.lst acc) ∧ acc.length < sizeLine ∧ Nx (upd H4 D (.lst (acc ++ [y]))) else Nx H3) := by
  refine ⟨fun i m H' => m = it.items.length - i ∧ i ≤ it.items.length ∧ LcI P K vs μ1 s1 σ H1 D (lcL it.keep t ct ce vs (it.items.drop i)) r H', ⟨it.items.length, by simp, Nat.zero_le _, ?_⟩, ?_⟩
  · have A := I.alloc (o := .lst []) hD
    exact ⟨[], μ1, s1, σ, [], rfl, A.toS, fun i e _ h1 h2 => ⟨e, h1, h2⟩, upd_same, .nil, fun z => (I.notup z).2.2 hD, e, hr⟩
  rintro i m H' ⟨rfl, hi, L⟩
  obtain ⟨acc, μ', s', σ', accV, hw, A, sl, eD, rs, nf, eF, hr'⟩ := L
  have tt : Tups K H1 H' := I.tups A.step
  by_cases hlt : i < it.items.length
  · right
    have hx : it.items[i]? = some it.items[i] := List.getElem?_eq_getElem hlt
    have eF2 := eF
    rw [List.drop_eq_getElem_cons hlt] at eF2
    have eF2 : (if kept s' it.keep && frees vs s' then (match t (.w it.items[i]) ⟨Mn.wipe vs s'.ρ, s'.h⟩ with
      | some s1 => (match ct s1 with
        | .ok true s2 => (match ce s2 with
          | .ok r s3 => (match boxR r s3 with
            | some (y, s4) => if acc.length < LN then lcL it.keep t ct ce vs (it.items.drop (i + 1)) (acc ++ [y]) s4 else none
            | none => none)
          | _ => none)
        | .ok false s2 => lcL it.keep t ct ce vs (it.items.drop (i + 1)) acc s2
        | _ => none)
      | none => none) else none) = r := eF2
    have nr : ∀ {α : Prop}, none = r → α := fun z => by subst z; cases hr'
    by_cases hk : (kept s' it.keep && frees vs s') = true
    · rw [if_pos hk] at eF2
      rw [Bool.and_eq_true] at hk
      obtain ⟨g1, g2⟩ := G.go μ' s' σ' H' i _ A.pre tt A.step.frz A.sim hk.1 hx
      refine ⟨g1, LcI P K vs μ1 s1 σ H1 D (lcL it.keep t ct ce vs (it.items.drop (i + 1))) r, fun H'' n => ⟨it.items.length - (i + 1), by omega, rfl, hlt, n⟩, fun x H'' y => ?_⟩
      obtain ⟨B, rx⟩ := g2 x H'' y
      obtain ⟨Iw, sub⟩ := B.sim.wipe vs
      rw [hw] at Iw sub
      cases q : t (.w it.items[i]) ⟨Mn.wipe vs s'.ρ, s'.h⟩ with
      | none => rw [q] at eF2; exact nr eF2
      | some s2 =>
        rw [q] at eF2
        simp only at eF2
        refine ⟨_, _, _, _, μ', _, .w it.items[i], s2, .refl Iw, rx, trivial, q, fun μ2 σ2 C w2 => ?_⟩
        refine ⟨w2.trans (wipeσ_idem σ vs), μ2, s2, C.sim, ?_⟩
        -- from the base on
        have AB := A.trans B.toS
        have AW : AftS P K μ1 s1 σ H1 μ' ⟨Mn.wipe vs s'.ρ, s'.h⟩ (L2.wipe σ vs) H'' := ⟨Iw, AB.pre, ⟨AB.step.keep, fun a z => AB.step.new a (foot_sub sub z), AB.step.live, AB.step.frz⟩⟩
        have AC := AW.trans C
        have nfB : ¬ foot μ' s' σ' D := nf
        have eD2 : H'' D = some (.lst accV) := B.step.keep D _ eD nf
        have nfW : ¬ foot μ' ⟨Mn.wipe vs s'.ρ, s'.h⟩ (L2.wipe σ vs) D := fun z => by
          rcases B.step.new D (foot_sub sub z) with z | z
          · exact nf z
          · rw [eD] at z; cases z
        have nfC : ¬ foot μ2 s2 σ2 D := fun z => by
          rcases C.step.new D z with z | z
          · exact nfW z
          · rw [eD2] at z; cases z
        obtain ⟨_, _, tg3⟩ := ht _ _ _ q
        have slC : ∀ (i : Nat) e, i ∉ vs → s1.ρ[i]? = some e → e.obj = true → ∃ e', s2.ρ[i]? = some e' ∧ e'.obj = true := fun i e hi h1 h2 => by
          obtain ⟨e', h3, h4⟩ := sl i e hi h1 h2
          exact ⟨e', by rw [tg3 i hi]; show (Mn.wipe vs s'.ρ)[i]? = _; rw [wipeS_out hi]; exact h3, h4⟩
        have rsC : SimWs K μ2 H'' acc accV := rs.mono (B.tups A.sim) (B.pre.trans C.pre)
        have w2' : L2.wipe σ2 vs = L2.wipe σ vs := w2.trans (wipeσ_idem σ vs)
        cases qc : ct s2 with
        | bad => rw [qc] at eF2; exact nr eF2
        | exc c xs s3 => rw [qc] at eF2; exact nr eF2
        | ok b s3 =>
          rw [qc] at eF2
          intro μ3 H3 C3
          have eD3 : H3 D = some (.lst accV) := C3.step.keep D _ eD2 nfC
          have nf3 : ¬ foot μ3 s3 σ2 D := fun z => by
            rcases C3.step.new D z with z | z
            · exact nfC z
            · rw [eD2] at z; cases z
          have sl3 : ∀ (i : Nat) e, i ∉ vs → s1.ρ[i]? = some e → e.obj = true → ∃ e', s3.ρ[i]? = some e' ∧ e'.obj = true := fun i e hi h1 h2 => let ⟨e', h3, h4⟩ := slC i e hi h1 h2; C3.sl i e' h3 h4
          have rs3 : SimWs K μ3 H3 acc accV := rsC.mono (C3.tups C.sim) C3.pre
          have AC3 := AC.trans C3.toS
          cases b with
          | false =>
            exact ⟨acc, μ3, s3, σ2, accV, w2', AC3, sl3, eD3, rs3, nf3, eF2, hr'⟩
          | true =>
            show tE P K noW ce σ2 H3 _
            refine ⟨μ3, s3, C3.sim, ?_⟩
            simp only at eF2
            cases qe : ce s3 with
            | bad => rw [qe] at eF2; exact nr eF2
            | exc c xs s4 => rw [qe] at eF2; exact nr eF2
            | ok rr s4 =>
              rw [qe] at eF2
              simp only at eF2
              intro μ4 H4 C4 v rv fv
              cases qb : boxR rr s4 with
              | none => rw [qb] at eF2; exact nr eF2
              | some yy =>
                obtain ⟨y', s5⟩ := yy
                rw [qb] at eF2
                simp only at eF2
                by_cases hl : acc.length < LN
                · rw [if_pos hl] at eF2
                  obtain ⟨μ5, Bx, sw⟩ := C4.sim.box rv qb
                  have frs : ∀ a, isNew rr v a → H3 a = none := fun a ⟨⟨o, e1⟩, e2⟩ => by subst e1 e2; exact fv
                  have C5 := Bx.aft C4 frs
                  have eD4 : H4 D = some (.lst accV) := C4.step.keep D _ eD3 nf3
                  have nf5 : ¬ foot μ5 s5 σ2 D := fun z => by
                    rcases C5.step.new D z with z | z
                    · exact nf3 z
                    · rw [eD3] at z; cases z
                  have rs5 : SimWs K μ5 H4 acc accV := rs3.mono (C5.tups C3.sim) C5.pre
                  refine ⟨accV, eD4, by rw [← SimWs_len rs3, ← LN_eq]; exact hl, ?_⟩
                  obtain ⟨t6, A6⟩ := AftS.other (vs' := accV ++ [v]) (AC3.trans C5.toS) hD eD4 nf5
                  exact ⟨acc ++ [y'], μ5, s5, σ2, accV ++ [v], w2', A6, fun i e hi h1 h2 => let ⟨e', h3, h4⟩ := sl3 i e hi h1 h2; C5.sl i e' h3 h4, upd_same, (rs5.snoc sw).mono t6 (List.prefix_refl _), nf5, eF2, hr'⟩
                · rw [if_neg hl] at eF2; exact nr eF2
    · rw [if_neg hk] at eF2; exact nr eF2
  · left
    have e : i = it.items.length := by omega
    subst e
    rw [List.drop_length] at eF
    refine ⟨?_, fin H' ⟨acc, μ', s', σ', accV, hw, A, sl, eD, rs, nf, eF, hr'⟩⟩
    have eF2 : (if kept s' it.keep && frees vs s' then some (acc, s') else none) = r := eF
    by_cases hk : (kept s' it.keep && frees vs s') = true
    · rw [Bool.and_eq_true] at hk
      exact G.stop μ' s' σ' H' A.pre tt A.step.frz A.sim hk.1
    · rw [if_neg hk] at eF2; subst eF2; cases hr'
theorem lc_end {K : PySem.W.Frag} {μ : List Addr} {s : S} {H : Hp} {μ1 : List Addr} {s1 : S} {σ : L2.St} {H1 : Hp} {D : Addr} {it : Mn.It} {r : Option (List W × S)} {H' : Hp} {ws : List W} {s2 : S} (A : Aft P K μ s σ H μ1 s1 H1) (hD : H1 D = none) (f1 : frees vs s1 = true) (hr : r = some (ws, s2))
    (L : LcI P K vs μ1 s1 σ H1 D (lcL it.keep t ct ce vs []) r H') : ∃ μ', Aft P K μ s σ H μ' ⟨restore vs s1.ρ s2.ρ, s2.h⟩ H' ∧ RepR P K μ' ⟨restore vs s1.ρ s2.ρ, s2.h⟩ σ H' (.new (.lst ws)) (.ref D) := by
  obtain ⟨acc, μ', s', σ', accV, hw, B, sl, eD, rs, nf, eF, hr'⟩ := L
  have eF2 : (if kept s' it.keep && frees vs s' then some (acc, s') else none) = r := eF
  by_cases hk : (kept s' it.keep && frees vs s') = true
  · rw [if_pos hk, hr] at eF2
    cases eF2
    have lσ : σ'.length = σ.length := by rw [← L2.wipe_length σ' vs, hw, L2.wipe_length]
    have lρ : s2.ρ.length = s1.ρ.length := by rw [B.sim.lenE, A.sim.lenE, lσ]
    have eσ : ∀ (i : Nat), i ∉ vs → σ'[i]? = σ[i]? := fun i hi => by rw [← wipeσ_out (σ := σ') hi, hw, wipeσ_out hi]
    have fr : ∀ (i : Nat), i ∈ vs → (s1.ρ.getD i .un).free = true := fun i hi => by
      unfold frees at f1
      exact List.all_eq_true.mp f1 i hi
    have sub : ∀ i a, Owns ⟨restore vs s1.ρ s2.ρ, s2.h⟩ σ i a → Owns s2 σ' i a := fun i a ⟨⟨o, h1⟩, h2⟩ => by
      have h1 : (restore vs s1.ρ s2.ρ)[i]? = some (.own o) := h1
      by_cases hi : i ∈ vs
      · by_cases hl : i < s2.ρ.length
        · rw [restore_in hi hl] at h1
          have := fr i hi
          rw [Option.some.inj h1] at this
          cases this
        · rw [List.getElem?_eq_none_iff.mpr (by rw [restore_len]; omega)] at h1; cases h1
      · rw [restore_out hi] at h1
        exact ⟨⟨o, h1⟩, (eσ i hi).trans h2⟩
    have tt : Tups K H1 H' := A.sim.tups B.step
    have S1 : Sim P K μ' ⟨restore vs s1.ρ s2.ρ, s2.h⟩ σ H' := by
      refine ⟨B.sim.heap, paired_of_get (by show (restore vs s1.ρ s2.ρ).length = _; rw [restore_len, lρ]; exact A.sim.lenE) fun i x y h1 h2 => ?_, B.sim.nd, fun i a z => B.sim.apart i a (sub i a z), fun i j a z1 z2 => B.sim.inj i j a (sub i a z1) (sub j a z2)⟩
      have h1 : (restore vs s1.ρ s2.ρ)[i]? = some x := h1
      have hl : i < s2.ρ.length := by
        have := (List.getElem?_eq_some_iff.mp h1).1
        rw [restore_len] at this
        exact this
      by_cases hi : i ∈ vs
      · rw [restore_in hi hl] at h1
        have ex : s1.ρ[i]? = some x := by
          rw [← Option.some.inj h1, List.getD_eq_getElem?_getD, List.getElem?_eq_getElem (by omega)]
          rfl
        have q := paired_two A.sim.env ex h2
        have f := fr i hi
        rw [Option.some.inj h1] at f
        cases x with
        | un => trivial
        | own o => cases f
        | w x => cases y with
          | none => exact q
          | some y => exact SimW.mono tt B.pre q
      · rw [restore_out hi] at h1
        rw [← eσ i hi] at h2
        exact paired_two B.sim.env h1 h2
    have nfR : ¬ foot μ' ⟨restore vs s1.ρ s2.ρ, s2.h⟩ σ D := fun z => nf (foot_sub sub z)
    refine ⟨μ', A.trans ⟨S1, B.pre, ⟨B.step.keep, fun a z => B.step.new a (foot_sub sub z), B.step.live, B.step.frz⟩, fun i e h1 h2 => ?_⟩, D, rfl, ⟨accV, eD, rs⟩, nfR⟩
    have hl : i < s2.ρ.length := by
      have := (List.getElem?_eq_some_iff.mp h1).1
      omega
    by_cases hi : i ∈ vs
    · refine ⟨e, ?_, h2⟩
      show (restore vs s1.ρ s2.ρ)[i]? = _
      rw [restore_in hi hl, List.getD_eq_getElem?_getD, h1]
      rfl
    · obtain ⟨e', h3, h4⟩ := sl i e hi h1 h2
      exact ⟨e', by show (restore vs s1.ρ s2.ρ)[i]? = _; rw [restore_out hi]; exact h3, h4⟩
  · rw [if_neg hk] at eF2; subst eF2; cases hr
theorem lcL_frees {k : Option (Nat × O)} {xs acc : List W} {s : S} (h : (lcL k t ct ce vs xs acc s).isSome = true) : frees vs s = true := by
  cases xs with
  | nil =>
    have h : (if kept s k && frees vs s then some (acc, s) else none).isSome = true := h
    by_cases hk : (kept s k && frees vs s) = true
    · exact (Bool.and_eq_true _ _ ▸ hk).2
    · rw [if_neg hk] at h; cases h
  | cons x xs =>
    by_cases hk : (kept s k && frees vs s) = true
    · exact (Bool.and_eq_true _ _ ▸ hk).2
    · unfold lcL at h
      rw [if_neg hk] at h
      cases h
theorem tLc_of {K : PySem.W.Frag} (ht : TgOk vs t) {σ : L2.St} {H : Hp} {Q : VK} (h : tE P K Wx (lcE ci t ct ce vs) σ H Q) : tLc (tI P K Wx ci) (tG P K vs t) (tT P K noW ct) (tE P K noW ce) vs σ H Q := by
  obtain ⟨μ, s, I, h⟩ := h
  refine ⟨μ, s, I, (Pst.bind h).mono fun it s1 μ1 H1 A h J G D hD => ?_⟩
  cases e : lcL it.keep t ct ce vs it.items [] s1 with
  | none => rw [e] at h; exact h.elim
  | some y =>
    obtain ⟨ws, s2⟩ := y
    rw [e] at h
    refine lc_of ht G A.sim hD rfl e fun H' L => ?_
    obtain ⟨μ', A2, rr⟩ := lc_end (ct := ct) (ce := ce) (t := t) (it := it) A hD (lcL_frees (by rw [e]; rfl)) rfl L
    exact h μ' H' A2 (.ref D) rr (A.step.live D hD)
theorem s_lc (ht : TgOk (own.map (·.2)) t) (hc : X.calm = true) (hN : X.N.Nodup) (hi : PI X tg iter (tI P X.K Wx ci)) (ok : BlkOk X.N X.env.scope scope own)
    (hg : ∀ (s : Shared) (H : Hp) (C : Addr) (cl : List (PySem.Str × Addr)) (fp : List Addr), PG (X.blk s H scope (compEnvC scope cl C X.env) fp) tg (tG P X.K (own.map (·.2)) t))
    (hts : ∀ (s : Shared) (H : Hp) (C : Addr) (cl : List (PySem.Str × Addr)) (fp : List Addr), PTs (X.blk s H scope (compEnvC scope cl C X.env) fp) ifs (tT P X.K noW ct))
    (he : ∀ (s : Shared) (H : Hp) (C : Addr) (cl : List (PySem.Str × Addr)) (fp : List Addr), PE (X.blk s H scope (compEnvC scope cl C X.env) fp) elt (tE P X.K noW ce)) (hs : ∀ x, foldedSetIterable iter X.env x = pure x := by intro _; rfl) :
    PE X (.ListComp elt [⟨tg, iter, ifs, 0⟩] scope pos) (tE P X.K Wx (lcE ci t ct ce (own.map (·.2)))) := PE_imp (pe_lc hc hN hi ok hg hts he hs) fun σ H Q h => tLc_of ht h
/-- name = [..] -/
theorem c_setLc {i : Nat} {y : PySem.Str} {py spos : Pos} (ht : TgOk (own.map (·.2)) t) (hc : X.calm = true) (hN : X.N.Nodup) (hy : X.N[i]? = some y) (hyl : X.env.scope.names.lookup y = some .local)
    (hsw : swapsWith (.ListComp elt [⟨tg, iter, ifs, 0⟩] scope pos) (some (.Name y py)) spos.line X.env = pure true) (hi : PI X tg iter (tI P X.K Wx ci)) (ok : BlkOk X.N X.env.scope scope own)
    (hg : ∀ (s : Shared) (H : Hp) (C : Addr) (cl : List (PySem.Str × Addr)) (fp : List Addr), PG (X.blk s H scope (compEnvC scope cl C X.env) fp) tg (tG P X.K (own.map (·.2)) t))
    (hts : ∀ (s : Shared) (H : Hp) (C : Addr) (cl : List (PySem.Str × Addr)) (fp : List Addr), PTs (X.blk s H scope (compEnvC scope cl C X.env) fp) ifs (tT P X.K noW ct))
    (he : ∀ (s : Shared) (H : Hp) (C : Addr) (cl : List (PySem.Str × Addr)) (fp : List Addr), PE (X.blk s H scope (compEnvC scope cl C X.env) fp) elt (tE P X.K noW ce)) (hs : ∀ x, foldedSetIterable iter X.env x = pure x := by intro _; rfl) :
    PS X (.Assign [.Name y py] (.ListComp elt [⟨tg, iter, ifs, 0⟩] scope pos) spos) (tS P X.K Wx (setS i (lcE ci t ct ce (own.map (·.2))))) := PS_imp (ps_setLc hc hN hy hyl hsw hi ok hg hts he hs) fun D σ H h => by
  obtain ⟨μ, s, I, h⟩ := h
  refine tLc_of ht ⟨μ, s, I, (PstS.res h).mono fun r s1 μ1 H1 A h v rv fv => ?_⟩
  cases q : asg i r s1 with
  | none => rw [q] at h; exact h.elim
  | some s2 =>
    rw [q] at h
    obtain ⟨μ2, A2⟩ := Sim.asgOk A.toS rv fv q
    exact h μ2 _ H1 A2
theorem ts_nil : PTs X [] (tT P X.K Wx yesT) := ⟨fun pins s σ H Q I h => pts_nil.run pins s σ H Q I (by
  obtain ⟨μ, s, I, h⟩ := h
  exact h μ H (.refl I))⟩
theorem ts_one {c : PySem.Expr} (h : PT X c (tT P X.K Wx ct)) : PTs X [c] (tT P X.K Wx ct) := pts_one h
end
end Mn

end
section
set_option Elab.async false
set_option linter.all false
set_option maxRecDepth 100000
set_option maxHeartbeats 4000000
/-! MnRule10: calls of defs. -/
namespace Mn
open PySem PySem.Spec PyProof.Rows L2
abbrev S.nil (h : List O) : S := ⟨[], h⟩
def PstF (P : Pr) (K : PySem.W.Frag) (μ : List Addr) (h : List O) (H : Hp) (x : Res2) (Q : VK) (E : XK) : Prop := match x with
  | .ok r h' => ∀ μ' H' v, Aft P K μ (S.nil h) [] H μ' (S.nil h') H' → RepR P K μ' (S.nil h') [] H' r v → Frs H r v → Q v H'
  | .exc c xs h' => ∀ μ' H' d, Aft P K μ (S.nil h) [] H μ' (S.nil h') H' → ExcAt P K μ' (S.nil h') [] H' xs d → E (.ref (P.ca c)) (some d) H'
  | .bad => False
/-- a def's promise -/
def spF (P : Pr) (K : PySem.W.Frag) (call : Call) (f n : Nat) : Sp := fun vs H Q E => vs.length = n ∧ ∃ μ h ws, Sim P K μ (S.nil h) [] H ∧ SimWs K μ H ws vs ∧ PstF P K μ h H (call f ws h) Q E
section
variable {P : Pr} {K : PySem.W.Frag} {μ μ' μ₀ : List Addr} {s s' : S} {σ σ' : L2.St} {H H' H₀ : Hp} {h h' : List O}
theorem Sim.noSlots (I : Sim P K μ s σ H) : Sim P K μ (S.nil s.h) [] H := ⟨I.heap, .nil, I.nd, fun i a z => by obtain ⟨⟨o, z⟩, _⟩ := z; simp at z, fun i j a z => by obtain ⟨⟨o, z⟩, _⟩ := z; simp at z⟩
/-- slots of values alone -/
theorem Sim.entry {ws : List W} {vs : List V} {N : List PySem.Str} {n : Nat} (I : Sim P K μ (S.nil h) [] H) (r : SimWs K μ H ws vs) (hn : n = N.length - vs.length) : Sim P K μ ⟨ws.map .w ++ List.replicate n .un, h⟩ (start N vs) H ∧ ∀ i a, ¬ Owns ⟨ws.map .w ++ List.replicate n .un, h⟩ (start N vs) i a := by
  have no : ∀ i a, ¬ Owns ⟨ws.map .w ++ List.replicate n .un, h⟩ (start N vs) i a := fun i a ⟨⟨o, z⟩, _⟩ => by
    have z : (ws.map E0.w ++ List.replicate n .un)[i]? = some (.own o) := z
    have := List.mem_of_getElem? z
    rcases List.mem_append.mp this with q | q
    · obtain ⟨w, _, e⟩ := List.mem_map.mp q; cases e
    · cases (List.mem_replicate.mp q).2
  refine ⟨⟨I.heap, ?_, I.nd, fun i a z => absurd z (no i a), fun i j a z => absurd z (no i a)⟩, no⟩
  show Paired _ (ws.map E0.w ++ List.replicate n .un) (vs.map some ++ List.replicate (N.length - vs.length) none)
  subst hn
  have key : ∀ {ws : List W} {vs : List V} {e : List E0} {σ : L2.St}, SimWs K μ H ws vs → Paired (SimE P K μ H) e σ → Paired (SimE P K μ H) (ws.map .w ++ e) (vs.map some ++ σ) := by
    intro ws
    induction ws with
    | nil => intro vs e σ r p; cases r; exact p
    | cons w ws ih => intro vs e σ r p; cases r with | cons q t => exact .cons q (ih t p)
  refine key r ?_
  generalize N.length - vs.length = m
  clear r no
  induction m with
  | zero => exact .nil
  | succ m ih => exact .cons trivial ih
theorem callee_out (no : ∀ i a, ¬ Owns s σ i a) (A : AftS P K μ s σ H μ' s' σ' H') : Aft P K μ (S.nil s.h) [] H μ' (S.nil s'.h) H' := by
  refine ⟨A.sim.noSlots, A.pre, ⟨fun a o e nf => A.step.keep a o e fun z => ?_, fun a z => ?_, A.step.live, A.step.frz⟩, fun i e z => by simp at z⟩
  · rcases z with z | ⟨i, z⟩
    · exact nf (.inl z)
    · exact no i a z
  · rcases z with z | ⟨i, ⟨o, z⟩, _⟩
    · rcases A.step.new a (.inl z) with q | q
      · rcases q with q | ⟨i, q⟩
        · exact .inl (.inl q)
        · exact absurd q (no i a)
      · exact .inr q
    · simp at z
/-- behind a call: the caller's slots stand -/
theorem call_out (I : Sim P K μ s σ H) (A : Aft P K μ (S.nil s.h) [] H μ' (S.nil h') H') : Aft P K μ s σ H μ' ⟨s.ρ, h'⟩ H' := by
  have nw : ∀ a, a ∈ μ' → a ∈ μ ∨ H a = none := fun a z => by
    rcases A.step.new a (.inl z) with (q | ⟨i, ⟨o, q⟩, _⟩) | q
    · exact .inl q
    · simp at q
    · exact .inr q
  have step : Step (foot μ s σ) H (foot μ' ⟨s.ρ, h'⟩ σ) H' := ⟨fun a o e nf => A.step.keep a o e fun z => by
      rcases z with z | ⟨i, ⟨o, z⟩, _⟩
      · exact nf (.inl z)
      · simp at z, fun a z => by
      rcases z with z | z
      · exact (nw a z).imp .inl id
      · exact .inl (.inr z), A.step.live, A.step.frz⟩
  have tt : Tups K H H' := I.tups step
  have ownK : ∀ i a, Owns s σ i a → a ∉ μ' ∧ H' a = H a := fun i a z => by
    have fa : foot μ s σ a := .inr ⟨i, z⟩
    have hn := (I.notup fa).2.2
    refine ⟨fun m => ?_, ?_⟩
    · rcases nw a m with q | q
      · exact I.apart i a z q
      · exact hn q
    · cases e : H a with
      | none => exact absurd e hn
      | some o =>
        refine A.step.keep a o e fun y => ?_
        rcases y with y | ⟨i, ⟨o, y⟩, _⟩
        · exact I.apart _ a z y
        · simp at y
  refine ⟨⟨A.sim.heap, ?_, A.sim.nd, fun i a z => (ownK i a z).1, I.inj⟩, A.pre, step, fun i e h1 h2 => ⟨e, h1, h2⟩⟩
  refine paired_of_get (Paired.length I.env) fun i x y h1 h2 => ?_
  have q := paired_two I.env h1 h2
  cases x with
  | un => trivial
  | w x => cases y with
    | none => exact q
    | some y => exact SimW.mono tt A.pre q
  | own o => cases y with
    | none => exact q
    | some y =>
      cases y <;> first | exact q | skip
      rename_i a
      refine SimO.mono tt A.pre (ownK i a ⟨⟨o, h1⟩, h2⟩).2 (fun dx e => A.step.keep dx _ e fun z => ?_) q
      rcases z with z | ⟨i, ⟨o, z⟩, _⟩
      · exact (I.notup (.inl z)).2.1 _ e
      · simp at z
theorem call_rep (I : Sim P K μ s σ H) (A : Aft P K μ (S.nil s.h) [] H μ' (S.nil h') H') {r : R} {v : V} (q : RepR P K μ' (S.nil h') [] H' r v) (f : Frs H r v) : RepR P K μ' ⟨s.ρ, h'⟩ σ H' r v := by
  cases r with
  | w x => exact q
  | slot i => obtain ⟨q, _⟩ := q; simp at q
  | new o =>
    obtain ⟨a, rfl, q1, q2⟩ := q
    refine ⟨a, rfl, q1, fun z => ?_⟩
    rcases z with z | ⟨i, z⟩
    · exact q2 (.inl z)
    · exact (I.notup (.inr ⟨i, z⟩)).2.2 f
end
/-- THE RULE for a def -/
theorem def_ok {P : Pr} {Pg : Program} {w : World} {K : PySem.W.Frag} {mg : PySem.Str → Option Value} {base : Heap} {x qual : PySem.Str} {params : Arguments} {body : List Stmt} {scope : Scope} {dvs : List V} {kws : List (PySem.Str × V)} {f : Addr} {fd : FuncData} {N ps : List PySem.Str} {k i : Nat} {fns : List Fn} {F : Fn}
    (D : FunD K x qual params body scope dvs kws f fd) (Sc : FnScope N ps scope) (hF : fns[i]? = some F) (h1 : F.ps = ps.length) (h2 : F.n = N.length) (hle : ps.length ≤ N.length)
    (hb : ∀ (cdv : Value) (A : Around) (outer : List Env) (s : Shared) (H : Hp) (E : XK), Room k (A.deeper (envOfC qual scope s.heap.objs.size f cdv)) →
      PSs (cxOf (L2.CX Pg w) Pg w K mg base N qual scope f cdv A outer s H E) body (tS P K (fun cls d _ H => E cls d H) (F.body (callF fns k)))) :
    FnOk Pg w K mg base (L2.CX Pg w) (k + 1) f fd ps (spF P K (callF fns (k + 1)) i ps.length) := by
  refine D.ok Sc (fun vs H Q E h => h.1) fun cdv A outer s H vs Q E hr hsp => ⟨_, hb cdv A outer s H E hr, ?_⟩
  obtain ⟨hl, μ, h, ws, I, rs, hsp⟩ := hsp
  have hlw := SimWs_len rs
  have e : callF fns (k + 1) i ws h = outF (F.body (callF fns k) ⟨ws.map E0.w ++ List.replicate (F.n - F.ps) E0.un, h⟩) := by
    show (match fns[i]? with
      | some F => if ws.length = F.ps then outF (F.body (callF fns k) ⟨ws.map E0.w ++ List.replicate (F.n - F.ps) E0.un, h⟩) else .bad
      | none => .bad) = _
    rw [hF]
    simp only
    rw [if_pos (by rw [hlw, hl, h1])]
  rw [e] at hsp
  obtain ⟨I2, no⟩ := I.entry (N := N) (n := F.n - F.ps) rs (by rw [h1, h2, hl])
  refine ⟨μ, _, I2, ?_⟩
  generalize F.body (callF fns k) ⟨ws.map E0.w ++ List.replicate (F.n - F.ps) E0.un, h⟩ = out at hsp ⊢
  cases out with
  | bad => exact hsp
  | bk s' => exact hsp.elim
  | ct s' => exact hsp.elim
  | nx s' => exact fun μ' σ' H' B => hsp μ' H' .non (callee_out no B) (SimW.d .non) trivial
  | exc c xs s' => exact fun μ' σ' H' d B ex => hsp μ' H' d (callee_out no B) (by
      obtain ⟨fs, e1, e2, e3⟩ := ex
      exact ⟨fs, e1, e2, fun z => e3 (by
        rcases z with z | ⟨i, ⟨o, z⟩, _⟩
        · exact .inl z
        · simp at z)⟩)
  | rt r s' =>
    intro μ' σ' H' v B rv fv
    have C := callee_out no B
    have nf : ∀ a, ¬ foot μ' s' σ' a → ¬ foot μ' (S.nil s'.h) [] a := fun a n z => by
      rcases z with z | ⟨i, ⟨o, z⟩, _⟩
      · exact n (.inl z)
      · simp at z
    cases r with
    | w y => exact hsp μ' H' v C rv trivial
    | new o =>
      obtain ⟨a, rfl, q1, q2⟩ := rv
      exact hsp μ' H' _ C ⟨a, rfl, q1, nf a q2⟩ fv
    | slot j =>
      obtain ⟨g1, e0, g2, g3⟩ := rv
      have hsp : PstF P K μ h H (match s'.ρ[j]? with
        | some (.own o) => .ok (.new o) s'.h
        | some (.w x) => .ok (.w x) s'.h
        | _ => .bad) Q E := hsp
      rw [g2] at hsp
      have q := paired_two B.sim.env g2 g1
      cases e0 with
      | un => cases g3
      | w y => exact hsp μ' H' v C q trivial
      | own o =>
        cases v <;> first | exact q.elim | skip
        rename_i a
        have ow : Owns s' σ' j a := ⟨⟨o, g2⟩, g1⟩
        refine hsp μ' H' _ C ⟨a, rfl, q, fun z => ?_⟩ ?_
        · rcases z with z | ⟨i, ⟨o, z⟩, _⟩
          · exact B.sim.apart j a ow z
          · simp at z
        · rcases B.step.new a (.inr ⟨j, ow⟩) with z | z
          · rcases z with z | ⟨i, z⟩
            · exact absurd (B.pre.subset z) (B.sim.apart j a ow)
            · exact absurd z (no i a)
          · exact z
section
variable {X : Cx} {P : Pr} {Wx : WX} {pos p : Pos} {e : PySem.Expr} {es : List PySem.Expr} {kws : List Keyword} {as : As} {call : Call} {i k : Nat} {f : Addr} {fd : FuncData} {ps ks : List PySem.Str} {x : PySem.Str} {perm : List Nat}
/-- the arguments are reckoned, the def runs -/
theorem run_of {K : PySem.W.Frag} {μ : List Addr} {s : S} {σ : L2.St} {H : Hp} {Q : VK} {s2 : S} {ws : List W} {us : List V} {n : Nat} {H1 : Hp} {μ1 : List Addr} (hl : us.length = n) (A : Aft P K μ s σ H μ1 s2 H1) (rs : SimWs K μ1 H1 ws us)
    (h : Pst P K Wx μ s σ H (backC s2.ρ (call i ws s2.h)) fun r s' μ' H' => ∀ v, RepR P K μ' s' σ H' r v → Frs H r v → Q v H') : spF P K call i n us H1 Q (WE Wx σ) := by
  refine ⟨hl, μ1, s2.h, ws, A.sim.noSlots, rs, ?_⟩
  cases q : call i ws s2.h with
  | bad => rw [q] at h; exact h.elim
  | ok r h' =>
    rw [q] at h
    intro μ' H' v C rv fv
    exact h μ' H' (A.trans (call_out A.sim C)) v (call_rep A.sim C rv fv) (fv.back A.step.live)
  | exc c xs h' =>
    rw [q] at h
    intro μ' H' d C ex
    refine h μ' H' d (A.trans (call_out A.sim C)) ?_
    obtain ⟨fs, e1, e2, e3⟩ := ex
    refine ⟨fs, e1, e2, fun z => ?_⟩
    rcases z with z | ⟨j, z⟩
    · exact e3 (.inl z)
    · have D := call_out A.sim C
      obtain ⟨o, so⟩ := D.sim.at_foot (.inr ⟨j, z⟩)
      cases o with
      | lst _ => obtain ⟨_, e4, _⟩ := so; rw [e1] at e4; cases e4
      | dct b _ => cases b with
        | false => obtain ⟨_, e4, _⟩ := so; rw [e1] at e4; cases e4
        | true => obtain ⟨_, _, e4, _⟩ := so; rw [e1] at e4; cases e4
      | ins _ _ => obtain ⟨_, _, e4, _⟩ := so; rw [e1] at e4; cases e4
mutual
theorem SimW.pure {K : PySem.W.Frag} {μ μ2 : List Addr} {H : Hp} : ∀ {w : W} {v : V}, SimW K μ H w v → w.pure = true → SimW K μ2 H w v
  | _, _, .d h, _ => .d h
  | _, _, .scr h, _ => .scr h
  | _, _, .ref _, e => nomatch e
  | _, _, .tup h r, e => .tup h (SimWs.pure r (by unfold W.pure at e; exact e))
theorem SimWs.pure {K : PySem.W.Frag} {μ μ2 : List Addr} {H : Hp} : ∀ {w : List W} {v : List V}, SimWs K μ H w v → W.pures w = true → SimWs K μ2 H w v
  | _, _, .nil, _ => .nil
  | _, _, .cons h r, e => by
    unfold W.pures at e
    rw [Bool.and_eq_true] at e
    exact .cons (SimW.pure h e.1) (SimWs.pure r e.2)
end
theorem SimK.pure {K : PySem.W.Frag} {μ μ2 : List Addr} {H : Hp} {kvs : List (D × W)} {ps : List (Key × V)} (h : SimK K μ H kvs ps) (e : W.pures (kvs.map (·.2)) = true) : SimK K μ2 H kvs ps := by
  induction h with
  | nil => exact .nil
  | cons h t ih =>
    simp only [List.map_cons, W.pures, Bool.and_eq_true] at e
    exact .cons ⟨h.1, SimW.pure h.2.1 e.1, h.2.2⟩ (ih e.2)
/-- what stands aside of all -/
theorem aside {P : Pr} {K : PySem.W.Frag} {μ : List Addr} {s : S} {σ : L2.St} {H : Hp} {μ' : List Addr} {h' : List O} {H' : Hp} (I : Sim P K μ s σ H) (A : Aft P K [] (S.nil []) [] H μ' (S.nil h') H') : Aft P K μ s σ H μ s H' := by
  have nf : ∀ a, ¬ foot [] (S.nil []) [] a := fun a z => by
    rcases z with z | ⟨i, ⟨o, z⟩, _⟩
    · simp at z
    · simp at z
  have kp : ∀ a o, H a = some o → H' a = some o := fun a o e => A.step.keep a o e (nf a)
  have tt : Tups K H H' := tups_of (fun a xs q => q.elim (fun q => .inl (kp _ _ q)) fun ⟨o, q⟩ => .inr ⟨o, kp _ _ q⟩) fun a o xs e => kp _ _ e
  refine ⟨I.over (fun a fa => ?_) tt (fun dx a e => kp _ _ e), List.prefix_refl _, ⟨fun a o e _ => kp a o e, fun a h => .inl h, A.step.live, A.step.frz⟩, fun i e h1 h2 => ⟨e, h1, h2⟩⟩
  cases e : H a with
  | none => exact absurd e (I.notup fa).2.2
  | some o => exact kp a o e
theorem run_ofH {K : PySem.W.Frag} {μ : List Addr} {s : S} {σ : L2.St} {H : Hp} {Q : VK} {s2 : S} {ws : List W} {us : List V} {n : Nat} {H1 : Hp} {μ1 : List Addr} (hl : us.length = n) (A : Aft P K μ s σ H μ1 s2 H1) (rs : SimWs K μ1 H1 ws us)
    (h : Pst P K Wx μ s σ H (callV call i ws s2) fun r s' μ' H' => ∀ v, RepR P K μ' s' σ H' r v → Frs H r v → Q v H') : spF P K call i n us H1 Q (WE Wx σ) := by
  unfold callV at h
  by_cases hp : W.pures ws = true
  · rw [if_pos hp] at h
    refine ⟨hl, [], [], ws, ⟨.nil, .nil, .nil, fun i a z => by obtain ⟨⟨o, z⟩, _⟩ := z; simp at z, fun i j a z => by obtain ⟨⟨o, z⟩, _⟩ := z; simp at z⟩, SimWs.pure rs hp, ?_⟩
    cases q : call i ws [] with
    | bad => rw [q] at h; exact h.elim
    | ok r h' =>
      rw [q] at h
      have h : Pst P K Wx μ s σ H (if pureR r then .ok r s2 else .bad) _ := h
      by_cases hr : pureR r = true
      · rw [if_pos hr] at h
        intro μ' H' v C rv fv
        have D := aside A.sim C
        refine h μ1 H' (A.trans D) v ?_ (fv.back A.step.live)
        cases r with
        | slot j => cases hr
        | w x => exact SimW.pure rv hr
        | new o =>
          obtain ⟨a, rfl, q1, q2⟩ := rv
          refine ⟨a, rfl, ?_, fun z => (A.sim.notup z).2.2 fv⟩
          cases o with
          | lst ws => obtain ⟨vs, e1, r1⟩ := q1; exact ⟨vs, e1, SimWs.pure r1 hr⟩
          | ins c fs => cases hr
          | dct b kvs =>
            cases b with
            | true => cases hr
            | false => obtain ⟨vs, e1, r1⟩ := q1; exact ⟨vs, e1, SimK.pure r1 hr⟩
      · rw [if_neg hr] at h; exact h.elim
    | exc c xs h' =>
      rw [q] at h
      intro μ' H' d C ex
      have D := aside A.sim C
      refine h μ1 H' d (A.trans D) ?_
      obtain ⟨fs, e1, e2, e3⟩ := ex
      refine ⟨fs, e1, e2, fun z => ?_⟩
      obtain ⟨o, so⟩ := D.sim.at_foot z
      cases o with
      | lst _ => obtain ⟨_, e4, _⟩ := so; rw [e1] at e4; cases e4
      | dct b _ => cases b with
        | false => obtain ⟨_, e4, _⟩ := so; rw [e1] at e4; cases e4
        | true => obtain ⟨_, _, e4, _⟩ := so; rw [e1] at e4; cases e4
      | ins _ _ => obtain ⟨_, _, e4, _⟩ := so; rw [e1] at e4; cases e4
  · rw [if_neg hp] at h
    exact run_of hl A rs h
theorem s_call (F : FnOk X.prog X.w X.K X.mg X.base (L2.CX X.prog X.w) k f fd ps (spF P X.K call i ps.length)) (tk : Takes X Wx) (hr : Room k X.A) (hg : Gl X x) (hm : X.mg x = some (.ref f)) (hk : PySem.W.keepIn X.K (.ref f) = true) (hb : Binds X.K fd ps [])
    (hl : (e :: es).length = ps.length) (hlen : ∀ s rs s', as s = .ok rs s' → rs.length = (e :: es).length)
    (ha : PA X (e :: es) (tA P X.K Wx as)) (hdb : (x == ("__debug__" : PySem.Str)) = false := by decide) (he : starEach (e :: es) X.env = (false, eval e X.env) :: starEach es X.env := by rfl) (hpl : (backTo pos (starEach es X.env)).any (·.1) = false := by rfl) :
    PE X (.Call (.Name x p) (e :: es) [] pos) (tE P X.K Wx (callE call i as)) := PE_imp (pe_callS (E := WE Wx) F hr hg hm hk hb (passAt tk) ha hdb he hpl) fun σ H Q h => by
  obtain ⟨μ, s, I, h⟩ := h
  refine ⟨μ, s, I, ?_⟩
  have h := Pst.bind h
  cases qa : as s with
  | bad => rw [qa] at h; exact h.elim
  | exc c xs s1 => rw [qa] at h; exact h
  | ok rs s1 =>
    rw [qa] at h
    intro μ1 H1 A us rus fus
    have h : Pst P X.K Wx μ s σ H (match boxes rs s1 with
      | some (ws, s2) => backC s2.ρ (call i ws s2.h)
      | none => .bad) _ := h μ1 H1 A
    cases q : boxes rs s1 with
    | none => rw [q] at h; exact h.elim
    | some y =>
      obtain ⟨ws, s2⟩ := y
      rw [q] at h
      obtain ⟨μ2, B, r⟩ := A.sim.boxesOk rus q
      refine run_of ?_ (B.aft A fus) r h
      rw [← Paired.length rus.all, hlen s rs s1 qa, hl]
theorem s_call0 (F : FnOk X.prog X.w X.K X.mg X.base (L2.CX X.prog X.w) k f fd ps (spF P X.K call i ps.length)) (tk : Takes X Wx) (hr : Room k X.A) (hg : Gl X x) (hm : X.mg x = some (.ref f)) (hk : PySem.W.keepIn X.K (.ref f) = true) (hb : Binds X.K fd ps [])
    (hl : ps.length = 0) (hdb : (x == ("__debug__" : PySem.Str)) = false := by decide) :
    PE X (.Call (.Name x p) [] [] pos) (tE P X.K Wx (callE call i asN)) := by
  have base : PE X (.Call (.Name x p) [] [] pos) fun σ H Q => spF P X.K call i ps.length [] H Q (WE Wx σ) := by
    refine ⟨fun pins s σ H Q I h => ?_⟩
    refine wpAny_Call_Name_kw (ld_glob I hg hm ?_ hdb)
    exact PySem.W.callWith_K0 I.kIn hk (run_fnS (E := WE Wx) (us := []) F hr hb (passAt tk σ) I .nil h)
  refine PE_imp base fun σ H Q h => ?_
  obtain ⟨μ, s, I, h⟩ := h
  have h : Pst P X.K Wx μ s σ H (backC s.ρ (call i [] s.h)) _ := h
  exact run_of hl.symm (.refl I) .nil h
theorem s_callH (F : FnOk X.prog X.w X.K X.mg X.base (L2.CX X.prog X.w) k f fd ps (spF P X.K call i ps.length)) (tk : Takes X Wx) (hr : Room k X.A) (hg : Gl X x) (hm : X.mg x = some (.ref f)) (hk : PySem.W.keepIn X.K (.ref f) = true) (hb : Binds X.K fd ps [])
    (hl : (e :: es).length = ps.length) (hlen : ∀ s rs s', as s = .ok rs s' → rs.length = (e :: es).length)
    (ha : PA X (e :: es) (tA P X.K Wx as)) (hdb : (x == ("__debug__" : PySem.Str)) = false := by decide) (he : starEach (e :: es) X.env = (false, eval e X.env) :: starEach es X.env := by rfl) (hpl : (backTo pos (starEach es X.env)).any (·.1) = false := by rfl) :
    PE X (.Call (.Name x p) (e :: es) [] pos) (tE P X.K Wx (callH call i as)) := PE_imp (pe_callS (E := WE Wx) F hr hg hm hk hb (passAt tk) ha hdb he hpl) fun σ H Q h => by
  obtain ⟨μ, s, I, h⟩ := h
  refine ⟨μ, s, I, ?_⟩
  have h := Pst.bind h
  cases qa : as s with
  | bad => rw [qa] at h; exact h.elim
  | exc c xs s1 => rw [qa] at h; exact h
  | ok rs s1 =>
    rw [qa] at h
    intro μ1 H1 A us rus fus
    have h : Pst P X.K Wx μ s σ H (match boxes rs s1 with
      | some (ws, s2) => callV call i ws s2
      | none => .bad) _ := h μ1 H1 A
    cases q : boxes rs s1 with
    | none => rw [q] at h; exact h.elim
    | some y =>
      obtain ⟨ws, s2⟩ := y
      rw [q] at h
      obtain ⟨μ2, B, r⟩ := A.sim.boxesOk rus q
      refine run_ofH ?_ (B.aft A fus) r h
      rw [← Paired.length rus.all, hlen s rs s1 qa, hl]
theorem s_callH0 (F : FnOk X.prog X.w X.K X.mg X.base (L2.CX X.prog X.w) k f fd ps (spF P X.K call i ps.length)) (tk : Takes X Wx) (hr : Room k X.A) (hg : Gl X x) (hm : X.mg x = some (.ref f)) (hk : PySem.W.keepIn X.K (.ref f) = true) (hb : Binds X.K fd ps [])
    (hl : ps.length = 0) (hdb : (x == ("__debug__" : PySem.Str)) = false := by decide) :
    PE X (.Call (.Name x p) [] [] pos) (tE P X.K Wx (callH call i asN)) := by
  have base : PE X (.Call (.Name x p) [] [] pos) fun σ H Q => spF P X.K call i ps.length [] H Q (WE Wx σ) := by
    refine ⟨fun pins s σ H Q I h => ?_⟩
    refine wpAny_Call_Name_kw (ld_glob I hg hm ?_ hdb)
    exact PySem.W.callWith_K0 I.kIn hk (run_fnS (E := WE Wx) (us := []) F hr hb (passAt tk σ) I .nil h)
  refine PE_imp base fun σ H Q h => ?_
  obtain ⟨μ, s, I, h⟩ := h
  have h : Pst P X.K Wx μ s σ H (callV call i [] s) _ := h
  exact run_ofH hl.symm (.refl I) .nil h
theorem PK_imp {X : Cx} {e : List Keyword} {t t' : TA} (h : PK X e t) (i : ∀ σ H Q, t' σ H Q → t σ H Q) : PK X e t' := ⟨fun pos pins s σ H Q I q => h.run pos pins s σ H Q I (i σ H Q q)⟩
theorem k_an : PK X [] (tA P X.K Wx asN) := PK_imp pk_nil fun σ H Q h => by
  obtain ⟨μ, s, I, h⟩ := h
  exact Pst.ok_self I h [] .nil (by simp [newsOf])
end
end Mn

end
section
set_option Elab.async false
set_option linter.all false
set_option maxRecDepth 100000
set_option maxHeartbeats 4000000
/-! MnRule11: more: keywords, two names at once, some built-in calls. -/
namespace Mn
open PySem PySem.Spec PyProof.Rows L2
section
variable {X : Cx} {P : Pr} {Wx : WX} {pos p p2 pos2 kpos : Pos} {a b e : PySem.Expr} {es : List PySem.Expr} {kws : List Keyword} {as : As} {ca cb : Ex} {call : Call} {i j k : Nat} {f : Addr} {fd : FuncData} {ps ks : List PySem.Str} {x y : PySem.Str} {perm : List Nat} {nm : Option PySem.Str}
/-! ### keywords -/
theorem tA_cons {K : PySem.W.Frag} {t : As} {σ : L2.St} {H : Hp} {Q : List V → Hp → Prop} (h : tA P K Wx (asC ca t) σ H Q) : tCons (tE P K Wx ca) (tA P K Wx t) σ H Q := by
  obtain ⟨μ, s, I, h⟩ := h
  refine ⟨μ, s, I, (Pst.bind h).mono fun r s1 μ1 H1 A h v rv fv => ?_⟩
  refine ⟨μ1, s1, A.sim, ((Pst.bind h).from A).mono fun rs s2 μ2 H2 B h vs rvs fvs => ?_⟩
  have rv2 := rv.aft A.sim B
  have key : ∀ a, isNew r v a → H a = none ∧ H1 a ≠ none := fun a ⟨⟨o, e1⟩, e2⟩ => by
    subst e1 e2
    obtain ⟨b, e3, q, _⟩ := rv
    cases e3
    exact ⟨fv, q.notup.2.2⟩
  refine h μ2 H2 (A.trans B) (v :: vs) (.cons rv2 rvs fun a ha hm => (key a ha).2 (fvs a hm)) fun a ha => ?_
  cases r with
  | new o =>
    obtain ⟨b, rfl, _, _⟩ := rv
    simp only [newsOf, List.mem_cons] at ha
    rcases ha with rfl | ha
    · exact fv
    · exact A.step.live a (fvs a ha)
  | w x => exact A.step.live a (fvs a (by simpa [newsOf] using ha))
  | slot i => exact A.step.live a (fvs a (by simpa [newsOf] using ha))
theorem k_ac {t : As} (ha : PE X e (tE P X.K Wx ca)) (hr : PK X kws (tA P X.K Wx t)) : PK X (⟨nm, e, kpos⟩ :: kws) (tA P X.K Wx (asC ca t)) := PK_imp (pk_cons ha hr) fun _ _ _ h => tA_cons h
/-- what a call by keywords binds -/
def KBd (K : PySem.W.Frag) (fd : FuncData) (ps ks : List PySem.Str) (perm : List Nat) : Prop := ∀ (s : Shared) (ws : List Value), K.In s.heap → ws.length = ks.length → BindsTo s fd ⟨[], ks.zip ws⟩ (ps.zip (perm.map fun i => ws.getD i .none))
theorem vals_getD {vs : List V} {us : List Value} (r : Vals vs us) (i : Nat) : RelV (vs.getD i .non) (us.getD i .none) := by
  rw [List.getD_eq_getElem?_getD, List.getD_eq_getElem?_getD]
  cases e : vs[i]? with
  | none =>
    rw [List.getElem?_eq_none_iff.mpr (by have := List.getElem?_eq_none_iff.mp e; rw [← r.length]; exact this)]
    rfl
  | some v =>
    obtain ⟨u, hu, ru⟩ := r.get e
    rw [hu]
    exact ru
theorem vals_perm {vs : List V} {us : List Value} (r : Vals vs us) : ∀ perm : List Nat, Vals (perm.map fun i => vs.getD i .non) (perm.map fun i => us.getD i .none)
  | [] => .nil
  | i :: perm => .cons (vals_getD r i) (vals_perm r perm)
theorem simWs_getD {K : PySem.W.Frag} {μ : List Addr} {H : Hp} {ws : List W} {vs : List V} (r : SimWs K μ H ws vs) (i : Nat) : SimW K μ H (ws.getD i (.d .non)) (vs.getD i .non) := by
  rw [List.getD_eq_getElem?_getD, List.getD_eq_getElem?_getD]
  cases e : ws[i]? with
  | none =>
    rw [List.getElem?_eq_none_iff.mpr (by have := List.getElem?_eq_none_iff.mp e; rw [← SimWs_len r]; exact this)]
    exact .d .non
  | some v =>
    obtain ⟨u, hu, ru⟩ := SimWs_get r e
    rw [hu]
    exact ru
theorem simWs_perm {K : PySem.W.Frag} {μ : List Addr} {H : Hp} {ws : List W} {vs : List V} (r : SimWs K μ H ws vs) : ∀ perm : List Nat, SimWs K μ H (perm.map fun i => ws.getD i (.d .non)) (perm.map fun i => vs.getD i .non)
  | [] => .nil
  | i :: perm => .cons (simWs_getD r i) (simWs_perm r perm)
theorem s_callK (F : FnOk X.prog X.w X.K X.mg X.base (L2.CX X.prog X.w) k f fd ps (spF P X.K call i ps.length)) (tk : Takes X Wx) (hr : Room k X.A) (hg : Gl X x) (hm : X.mg x = some (.ref f)) (hk : PySem.W.keepIn X.K (.ref f) = true) (hb : KBd X.K fd ps ks perm)
    (hl : perm.length = ps.length) (hl2 : ks.length = perm.length) (ha : PK X kws (tA P X.K Wx as)) (hdb : (x == ("__debug__" : PySem.Str)) = false := by decide)
    (hall : (backToKw pos (keywordEach kws X.env)).all (·.1.isSome) = true := by rfl) (hks : (backToKw pos (keywordEach kws X.env)).filterMap (·.1) = ks := by rfl)
    (hpl : ((backTo pos (starEach [] X.env)).any (·.1) || (backToKw pos (keywordEach kws X.env)).any (·.1.isNone)) = false := by rfl) :
    PE X (.Call (.Name x p) [] kws pos) (tE P X.K Wx (callK call i perm as)) := by
  have base : PE X (.Call (.Name x p) [] kws pos) fun σ H Q => tA P X.K Wx as σ H fun vs H1 => vs.length = perm.length ∧ spF P X.K call i ps.length (perm.map fun i => vs.getD i .non) H1 Q (WE Wx σ) := by
    refine ⟨fun pins s σ H Q I h => ?_⟩
    refine wpAny_Call_Name_kw (ld_glob I hg hm ?_ hdb)
    refine PySem.W.callWith_KW0 (h₀ := X.base) I.ok.mod.kin hk hall ?_ hpl
    refine thn (ha.run pos pins s σ H _ I h) fun ws s2 ⟨zs, H2, I2, rz, l1, q2⟩ => ⟨I2.kIn, ?_⟩
    rw [hks]
    have lw : ws.length = ks.length := by rw [← rz.length, l1, hl2]
    refine wpAny_call (codeAny_mono (F.run X.A X.stack s2 H2 ⟨[], ks.zip ws⟩ (perm.map fun i => ws.getD i .none) (perm.map fun i => zs.getD i .non) Q (WE Wx σ) hr I2.env0 (hb s2 ws I2.kIn lw) (vals_perm rz perm) q2) fun r s' hq => ?_)
    cases r with
    | error e => exact passAt tk σ pins H2 s2 e s' I2 hq
    | ok fl =>
      cases fl with
      | ret u => exact I2.after hq
      | next => exact False.elim hq
      | brk => exact False.elim hq
      | cont => exact False.elim hq
  refine PE_imp base fun σ H Q h => ?_
  obtain ⟨μ, s, I, h⟩ := h
  refine ⟨μ, s, I, ?_⟩
  have h := Pst.bind h
  cases qa : as s with
  | bad => rw [qa] at h; exact h.elim
  | exc c xs s1 => rw [qa] at h; exact h
  | ok rs s1 =>
    rw [qa] at h
    intro μ1 H1 A us rus fus
    have h : Pst P X.K Wx μ s σ H (match boxes rs s1 with
      | some (ws, s2) => if ws.length = perm.length then backC s2.ρ (call i (perm.map fun i => ws.getD i (.d .non)) s2.h) else .bad
      | none => .bad) _ := h μ1 H1 A
    cases q : boxes rs s1 with
    | none => rw [q] at h; exact h.elim
    | some y =>
      obtain ⟨ws, s2⟩ := y
      rw [q] at h
      obtain ⟨μ2, B, r⟩ := A.sim.boxesOk rus q
      by_cases hw : ws.length = perm.length
      · simp only [hw, if_true] at h
        exact ⟨by rw [← SimWs_len r]; exact hw, run_of (by rw [List.length_map, hl]) (B.aft A fus) (simWs_perm r perm) h⟩
      · simp only [hw, if_false] at h
        exact h.elim
theorem s_callHK (F : FnOk X.prog X.w X.K X.mg X.base (L2.CX X.prog X.w) k f fd ps (spF P X.K call i ps.length)) (tk : Takes X Wx) (hr : Room k X.A) (hg : Gl X x) (hm : X.mg x = some (.ref f)) (hk : PySem.W.keepIn X.K (.ref f) = true) (hb : KBd X.K fd ps ks perm)
    (hl : perm.length = ps.length) (hl2 : ks.length = perm.length) (ha : PK X kws (tA P X.K Wx as)) (hdb : (x == ("__debug__" : PySem.Str)) = false := by decide)
    (hall : (backToKw pos (keywordEach kws X.env)).all (·.1.isSome) = true := by rfl) (hks : (backToKw pos (keywordEach kws X.env)).filterMap (·.1) = ks := by rfl)
    (hpl : ((backTo pos (starEach [] X.env)).any (·.1) || (backToKw pos (keywordEach kws X.env)).any (·.1.isNone)) = false := by rfl) :
    PE X (.Call (.Name x p) [] kws pos) (tE P X.K Wx (callHK call i perm as)) := by
  have base : PE X (.Call (.Name x p) [] kws pos) fun σ H Q => tA P X.K Wx as σ H fun vs H1 => vs.length = perm.length ∧ spF P X.K call i ps.length (perm.map fun i => vs.getD i .non) H1 Q (WE Wx σ) := by
    refine ⟨fun pins s σ H Q I h => ?_⟩
    refine wpAny_Call_Name_kw (ld_glob I hg hm ?_ hdb)
    refine PySem.W.callWith_KW0 (h₀ := X.base) I.ok.mod.kin hk hall ?_ hpl
    refine thn (ha.run pos pins s σ H _ I h) fun ws s2 ⟨zs, H2, I2, rz, l1, q2⟩ => ⟨I2.kIn, ?_⟩
    rw [hks]
    have lw : ws.length = ks.length := by rw [← rz.length, l1, hl2]
    refine wpAny_call (codeAny_mono (F.run X.A X.stack s2 H2 ⟨[], ks.zip ws⟩ (perm.map fun i => ws.getD i .none) (perm.map fun i => zs.getD i .non) Q (WE Wx σ) hr I2.env0 (hb s2 ws I2.kIn lw) (vals_perm rz perm) q2) fun r s' hq => ?_)
    cases r with
    | error e => exact passAt tk σ pins H2 s2 e s' I2 hq
    | ok fl =>
      cases fl with
      | ret u => exact I2.after hq
      | next => exact False.elim hq
      | brk => exact False.elim hq
      | cont => exact False.elim hq
  refine PE_imp base fun σ H Q h => ?_
  obtain ⟨μ, s, I, h⟩ := h
  refine ⟨μ, s, I, ?_⟩
  have h := Pst.bind h
  cases qa : as s with
  | bad => rw [qa] at h; exact h.elim
  | exc c xs s1 => rw [qa] at h; exact h
  | ok rs s1 =>
    rw [qa] at h
    intro μ1 H1 A us rus fus
    have h : Pst P X.K Wx μ s σ H (match boxes rs s1 with
      | some (ws, s2) => if ws.length = perm.length then callV call i (perm.map fun i => ws.getD i (.d .non)) s2 else .bad
      | none => .bad) _ := h μ1 H1 A
    cases q : boxes rs s1 with
    | none => rw [q] at h; exact h.elim
    | some y =>
      obtain ⟨ws, s2⟩ := y
      rw [q] at h
      obtain ⟨μ2, B, r⟩ := A.sim.boxesOk rus q
      by_cases hw : ws.length = perm.length
      · simp only [hw, if_true] at h
        exact ⟨by rw [← SimWs_len r]; exact hw, run_ofH (by rw [List.length_map, hl]) (B.aft A fus) (simWs_perm r perm) h⟩
      · simp only [hw, if_false] at h
        exact h.elim
/-! ### two names at once -/
theorem c_par {px py pt : Pos} {kt k2 pt2} (hc : X.calm = true) (hN : X.N.Nodup) (hi : X.N[i]? = some x) (hj : X.N[j]? = some y) (hij : i ≠ j) (hx : X.env.scope.names.lookup x = some .local) (hy : X.env.scope.names.lookup y = some .local) (ha : PA X [a, b] (tA P X.K Wx as))
    (hw : swappedStores [.Tuple [.Name x px, .Name y py] kt pt] (.Tuple [a, b] k2 pt2) X.env = pure (some [x, y]))
    (hs : swapsWithSole [.Tuple [.Name x px, .Name y py] kt pt] (.Tuple [a, b] k2 pt2) pos.line X.env = pure false := by rfl) :
    PS X (.Assign [.Tuple [.Name x px, .Name y py] kt pt] (.Tuple [a, b] k2 pt2) pos) (tS P X.K Wx (parS i j as)) := PS_imp (ps_par hc hN hi hj hij hx hy ha hw hs) fun D σ H h => by
  obtain ⟨μ, s, I, h⟩ := h
  refine ⟨μ, s, I, (PstS.res h).mono fun rs s1 μ1 H1 A h vs rvs fvs => ?_⟩
  cases q : boxes rs s1 with
  | none => rw [q] at h; exact h.elim
  | some z =>
    obtain ⟨ws, s2⟩ := z
    rw [q] at h
    obtain ⟨μ2, B, r⟩ := A.sim.boxesOk rvs q
    have A2 := B.aft A fvs
    match ws, vs, r, h with
    | [], _, _, h => exact h.elim
    | [_], _, _, h => exact h.elim
    | _ :: _ :: _ :: _, _, _, h => exact h.elim
    | [w1, w2], _, .cons r1 (.cons r2 .nil), h =>
      rename_i v1 v2
      refine ⟨v1, v2, rfl, ?_⟩
      have h : PstS P X.K Wx μ s σ H (match asg i (.w w1) s2 with
        | some s3 => ofOpt (asg j (.w w2) s3)
        | none => .bad) D := h
      cases e1 : asg i (.w w1) s2 with
      | none => rw [e1] at h; exact h.elim
      | some s3 =>
        rw [e1] at h
        simp only at h
        cases e2 : asg j (.w w2) s3 with
        | none => rw [e2] at h; exact h.elim
        | some s4 =>
          rw [e2] at h
          obtain ⟨μ3, A3⟩ := Sim.asgOk (r := .w w1) (AftS.refl A2.sim) r1 trivial e1
          obtain ⟨μ4, A4⟩ := Sim.asgOk (r := .w w2) (A2.toS.trans A3) (SimW.mono Tups.refl A3.pre r2) trivial e2
          exact h μ4 _ H1 A4
/-! ### built-in calls -/
theorem simWs_rev {K : PySem.W.Frag} {μ : List Addr} {H : Hp} : ∀ {ws : List W} {vs : List V}, SimWs K μ H ws vs → SimWs K μ H ws.reverse vs.reverse
  | _, _, .nil => .nil
  | _, _, .cons r t => by rw [List.reverse_cons, List.reverse_cons]; exact (simWs_rev t).snoc r
theorem s_rev (hc : X.calm = true) (hg : Gl X "tuple") (hm : X.mg "tuple" = none) (hg2 : Gl X "reversed") (hm2 : X.mg "reversed" = none) (ha : PE X a (tE P X.K Wx ca))
    (hs : starEach [a] X.env = (false, eval a X.env) :: starEach [] X.env := by rfl)
    (hs2 : starEach [.Call (.Name "reversed" p2) [a] [] pos2] X.env = (false, eval (.Call (.Name "reversed" p2) [a] [] pos2) X.env) :: starEach [] X.env := by rfl) :
    PE X (.Call (.Name "tuple" p) [.Call (.Name "reversed" p2) [a] [] pos2] [] pos) (tE P X.K Wx (op1 revV ca)) := PE_imp (RT.pe_tupRev hc hg hm hg2 hm2 ha hs hs2) fun σ H Q h => by
  obtain ⟨μ, s, I, h⟩ := h
  refine ⟨μ, s, I, (Pst.bind h).mono fun x s1 μ1 H1 A h v1 r1 f1 => ?_⟩
  cases q : revV s1 x with
  | none => rw [q] at h; exact h.elim
  | some r =>
    rw [q] at h
    unfold revV at q
    split at q <;> first | (cases q; done) | skip
    rename_i ws e
    cases q
    obtain ⟨a', rfl, ⟨vs, e2, rs⟩, _⟩ := A.sim.obj r1 e
    refine ⟨a', vs, rfl, .inl (.inl e2), fun q hq => ?_⟩
    have rr : SimWs X.K μ1 H1 ws.reverse vs.reverse := simWs_rev rs
    obtain ⟨B, r3⟩ := newTup A.sim rr hq
    exact h μ1 _ (A.trans B) _ r3 trivial
theorem s_lrng (hc : X.calm = true) (hg : Gl X "list") (hm : X.mg "list" = none) (hg2 : Gl X "range") (hm2 : X.mg "range" = none) (ha : PE X a (tE P X.K Wx ca))
    (hs : starEach [a] X.env = (false, eval a X.env) :: starEach [] X.env := by rfl)
    (hs2 : starEach [.Call (.Name "range" p2) [a] [] pos2] X.env = (false, eval (.Call (.Name "range" p2) [a] [] pos2) X.env) :: starEach [] X.env := by rfl) :
    PE X (.Call (.Name "list" p) [.Call (.Name "range" p2) [a] [] pos2] [] pos) (tE P X.K Wx (op1 lrngV ca)) := PE_imp (pe_listRg hc hg hm (prg_1 hg2 hm2 ha hs) hs2) fun σ H Q h => by
  obtain ⟨μ, s, I, h⟩ := h
  refine ⟨μ, s, I, (Pst.bind h).mono fun x s1 μ1 H1 A h v1 r1 f1 => ?_⟩
  cases q : lrngV s1 x with
  | none => rw [q] at h; exact h.elim
  | some r =>
    rw [q] at h
    unfold lrngV at q
    split at q <;> first | (cases q; done) | skip
    rename_i n
    split at q <;> cases q
    rename_i hn
    cases rep_int r1
    refine ⟨n, rfl, ⟨by decide, by decide, by omega, by omega, by omega⟩, fun q hq => ?_⟩
    have rr : SimWs X.K μ1 H1 ((List.range n.toNat).map fun i : Nat => W.d (.int (i : Int))) (rgV 0 n) := by
      have key : ∀ l : List Nat, SimWs X.K μ1 H1 (l.map fun i : Nat => W.d (.int (i : Int))) (l.map fun i : Nat => V.int (i : Int)) := fun l => by
        induction l with
        | nil => exact .nil
        | cons i l ih => exact .cons (.d (.int _)) ih
      have e : rgV 0 n = (List.range n.toNat).map fun i : Nat => V.int (i : Int) := by
        unfold rgV
        simp
      rw [e]
      exact key _
    obtain ⟨B, r3⟩ := newLst A.sim rr hq
    exact h μ1 _ (A.trans B) _ r3 (A.step.live q hq)
theorem str_S {K : PySem.W.Frag} : CallS P K (fun xs H Q => ∃ i, xs = [.int i] ∧ i.natAbs.log2 < 1920 ∧ Q (.str (toString i)) H) strV := fun μ s σ H x v rr Q I h1 e h => by
  unfold strV at e
  split at e <;> first | (cases e; done) | skip
  rename_i i
  split at e <;> cases e
  rename_i hi
  cases rep_int h1
  refine ⟨i, rfl, hi, ?_⟩
  have e2 : (toString i : PySem.Str) = sig ((toString i : String).toList.map Char.toNat) := PySem.Str.ofString_eq_toList _
  rw [e2]
  exact h μ H _ (.refl I) (SimW.d (.str _ fun c hc => by
    obtain ⟨ch, _, rfl⟩ := List.mem_map.mp hc
    have := ch.valid
    unfold UInt32.isValidChar Nat.isValidChar at this
    show ch.val.toNat < _
    omega)) trivial
/-! ### in a tuple of anything -/
def rInDT (K : PySem.W.Frag) (neg : Bool) : R2 := fun x y H Q => ∃ d ds, Dp K H x d ∧ Dp K H y (.tuple ds) ∧ d.canLay0 = true ∧ PyData.canLayAll0 ds = true ∧ min (PyData.depthAll ds) d.depth ≤ 60 ∧ Q (.bl (if neg then !(ds.any fun z => PyData.eqv z d) else ds.any fun z => PyData.eqv z d)) H
theorem op_inDT (hu : X.A.units + 64 < cLine) : OpR X (compareOp .In) (rInDT X.K false) := by
  intro pins s σ H x y v u Q I rx ry h
  obtain ⟨d, ds, hd, he, sd, se, m, q⟩ := h
  obtain ⟨as, r1⟩ := Dp.reads I d x v hd rx
  obtain ⟨bs, r2⟩ := Dp.reads I (.tuple ds) y u he ry
  exact SeqAt.in_tuple_reads r2 r1 se sd (by omega) ⟨.bl _, H, I, rfl, q⟩
theorem op_notInDT (hu : X.A.units + 64 < cLine) : OpR X (compareOp .NotIn) (rInDT X.K true) := by
  intro pins s σ H x y v u Q I rx ry h
  obtain ⟨d, ds, hd, he, sd, se, m, q⟩ := h
  obtain ⟨as, r1⟩ := Dp.reads I d x v hd rx
  obtain ⟨bs, r2⟩ := Dp.reads I (.tuple ds) y u he ry
  exact SeqAt.notIn_tuple_reads r2 r1 se sd (by omega) ⟨.bl _, H, I, rfl, q⟩
theorem any_py (x : D) : ∀ ys : List D, ((D.pys ys).any fun z => PyData.eqv z x.py) = inB x ys
  | [] => rfl
  | y :: ys => by
    show (PyData.eqv y.py x.py || (D.pys ys).any fun z => PyData.eqv z x.py) = (D.eqv y x || inB x ys)
    rw [any_py x ys, D.eqv_py]
theorem inDT_S {K : PySem.W.Frag} {neg : Bool} : OpS P K (rInDT K neg) (inDV neg) := fun μ s σ H x y v1 v2 r Q I h1 h2 e h => by
  unfold inDV at e
  split at e <;> first | (cases e; done) | skip
  rename_i x ys
  split at e <;> cases e
  rename_i hm
  cases (show SimW K μ H (.d x) v1 from h1) with
  | d q1 =>
    cases (show SimW K μ H (.d (.tup ys)) v2 from h2) with
    | d q2 =>
      obtain ⟨d1, s1⟩ := q1.dp
      obtain ⟨d2, s2⟩ := q2.dp
      refine ⟨_, _, d1, d2, s1, s2, by rw [D.pys_depth, D.py_depth]; exact hm, ?_⟩
      rw [any_py]
      exact h μ H _ (.refl I) rep_bR trivial
theorem s_inD (hu : X.A.units + 64 < cLine) (ha : PE X a (tE P X.K Wx ca)) (hb : PE X b (tE P X.K Wx cb)) (hm : behindInMarks .In b = false) : PE X (.Compare a [.In] [b] pos) (tE P X.K Wx (op2 (inDV false) ca cb)) := s_cmp (op_inDT hu) inDT_S ha hb hm
theorem s_notinD (hu : X.A.units + 64 < cLine) (ha : PE X a (tE P X.K Wx ca)) (hb : PE X b (tE P X.K Wx cb)) (hm : behindInMarks .NotIn b = false) : PE X (.Compare a [.NotIn] [b] pos) (tE P X.K Wx (op2 (inDV true) ca cb)) := s_cmp (op_notInDT hu) inDT_S ha hb hm
/-! ### len(set(x)) -/
theorem dist_len : ∀ (ns l : List Int), l.Nodup → (∀ k, k ∈ l ↔ k ∈ ns) → l.length = dist ns
  | [], l, _, h => by
    cases l with
    | nil => rfl
    | cons x l => exact absurd ((h x).mp List.mem_cons_self) (by simp)
  | x :: xs, l, hn, h => by
    unfold dist
    by_cases hx : x ∈ xs
    · rw [if_pos hx]
      exact dist_len xs l hn fun k => (h k).trans ⟨fun q => by
        rcases List.mem_cons.mp q with q | q
        · subst q; exact hx
        · exact q, fun q => List.mem_cons_of_mem _ q⟩
    · rw [if_neg hx]
      have hm : x ∈ l := (h x).mpr List.mem_cons_self
      have e := List.length_erase_of_mem hm
      have ih := dist_len xs (l.erase x) (hn.erase x) fun k => by
        rw [hn.mem_erase_iff, h k, List.mem_cons]
        constructor
        · rintro ⟨h1, h2⟩; exact h2.resolve_left h1
        · intro h1; exact ⟨fun z => hx (z ▸ h1), .inr h1⟩
      have := List.length_pos_of_mem hm
      omega
theorem s_lset (hc : X.calm = true) (hg : Gl X "len") (hm : X.mg "len" = none) (hg2 : Gl X "set") (hm2 : X.mg "set" = none) (ha : PE X a (tE P X.K Wx ca))
    (na : starEach [a] X.env = (false, eval a X.env) :: starEach [] X.env := by rfl) : PE X (.Call (.Name "len" p) [.Call (.Name "set" p2) [a] [] pos2] [] pos) (tE P X.K Wx (op1 lsetV ca)) := by
  have base : PE X (.Call (.Name "len" p) [.Call (.Name "set" p2) [a] [] pos2] [] pos) fun σ H Q => tE P X.K Wx ca σ H fun x H1 => ∃ (l : Addr) (ns : List Int), x = V.ref l ∧ SqT X.K H1 l (ns.map V.int) ∧ ns.length + 1 < 4096 ∧ Q (.int (dist ns : Nat)) H1 := by
    refine ⟨fun pins s σ H Q I h => ?_⟩
    refine Call_ (ld_blt I hg hm PySem.boot_len ?_)
    refine PyProof.Rows.callWith_builtin1 (PyProof.Rows.args_cons ?_ rfl) rfl rfl
    refine Call_ (ld_blt I hg2 hm2 PyProof.Rows.boot_set ?_)
    refine PyProof.Rows.callWith_type1 (PyProof.Rows.args_cons (thn (ha.run pins s σ H _ I h) fun v s1 ⟨x, H1, I1, r1, q1⟩ => PyProof.Rows.args_nil ?_) na) na rfl
    obtain ⟨l, ns, rfl, hq, h1, q1⟩ := q1
    cases r1
    obtain ⟨its, r, pl, hz⟩ := I1.tuple hq
    refine call_set_tupI ns (I1.ok.hd hc) pl (by simpa using r.ints) (by unfold scanBound; omega) fun h' tk c hS hcl hk => ?_
    refine PyProof.Rows.args_nil ?_
    obtain ⟨o, es, ep, t, ho, hex, hd, _, hnd, hmem, _, hf, hn, _⟩ := hS
    have I2 : Inv X pins σ H1 { s1 with heap := h', toks := tk } := I1.kept fun b o e => hk b o e
    have hc2 : c = dist ns := by
      rw [← dist_len ns (es.toList.map keyOf) hnd fun k => by rw [← hmem k]; simp, List.length_map, Array.length_toList, hn]
    refine call_len_set ho hex hd hf (by rw [hn] <;> omega) ⟨.int (dist ns : Nat), H1, I2.tok _, ⟨_, by rw [hn, hc2]⟩, q1⟩
  refine PE_imp base fun σ H Q h => ?_
  obtain ⟨μ, s, I, h⟩ := h
  refine ⟨μ, s, I, (Pst.bind h).mono fun x s1 μ1 H1 A h v1 r1 f1 => ?_⟩
  cases q : lsetV s1 x with
  | none => rw [q] at h; exact h.elim
  | some r =>
    rw [q] at h
    unfold lsetV at q
    split at q <;> first | (cases q; done) | skip
    rename_i xs
    split at q <;> first | (cases q; done) | skip
    rename_i ns e
    split at q <;> cases q
    rename_i hn
    cases (show SimW X.K μ1 H1 (.d (.tup xs)) v1 from r1) with
    | d q =>
      cases q with
      | @tup l vs _ hT rs => exact ⟨l, ns, rfl, by rw [← RepDs_intD rs e]; exact hT, hn, h μ1 H1 A _ rep_iR trivial⟩
end
end Mn

end
section
set_option Elab.async false
set_option linter.all false
set_option maxRecDepth 100000
set_option maxHeartbeats 4000000
/-! MnUse: the rules, ready for printing. -/
namespace Mn
open PySem PySem.Spec PyProof.Rows L2
theorem Room.h64 {k : Nat} {A : Around} (r : Room k A) : A.units + 64 < cLine := by have := r.un; omega
theorem Room.h1 {k : Nat} {A : Around} (r : Room k A) : A.units + 1 < cLine := by have := r.un; omega
def AsLen (n : Nat) (as : As) : Prop := ∀ s rs s', as s = .ok rs s' → rs.length = n
theorem al0 : AsLen 0 asN := fun s rs s' e => by cases e; rfl
theorem al1 {n : Nat} {a : Ex} {r : As} (h : AsLen n r) : AsLen (n + 1) (asC a r) := fun s rs s' e => by
  unfold asC at e
  cases q : a s with
  | bad => rw [q] at e; cases e
  | exc _ _ _ => rw [q] at e; cases e
  | ok x s1 =>
    rw [q] at e
    simp only [Res.bind_ok] at e
    cases q2 : r s1 with
    | bad => rw [q2] at e; cases e
    | exc _ _ _ => rw [q2] at e; cases e
    | ok xs s2 => rw [q2] at e; cases e; simp [h s1 xs _ q2]
section
variable {X : Cx} {P : Pr} {Wx : WX} {pos p p2 apos cpos : Pos} {a b c e o : PySem.Expr} {es : List PySem.Expr} {ca cb cc co : Ex} {ct : As}
theorem s_add (ha : PE X a (tE P X.K Wx ca)) (hb : PE X b (tE P X.K Wx cb)) : PE X (.BinOp a .Add b pos) (tE P X.K Wx (op2 addV ca cb)) := s_op op_add4 add_S ha hb
theorem s_sub (ha : PE X a (tE P X.K Wx ca)) (hb : PE X b (tE P X.K Wx cb)) : PE X (.BinOp a .Sub b pos) (tE P X.K Wx (op2 subV ca cb)) := s_op op_subC sub_S ha hb
theorem s_mul (ha : PE X a (tE P X.K Wx ca)) (hb : PE X b (tE P X.K Wx cb)) : PE X (.BinOp a .Mult b pos) (tE P X.K Wx (op2 mulV ca cb)) := s_op op_mul4 mul_S ha hb
theorem s_mod (ha : PE X a (tE P X.K Wx ca)) (hb : PE X b (tE P X.K Wx cb)) : PE X (.BinOp a .Mod b pos) (tE P X.K Wx (op2 modV ca cb)) := s_op op_mod mod_S ha hb
theorem s_div (ha : PE X a (tE P X.K Wx ca)) (hb : PE X b (tE P X.K Wx cb)) : PE X (.BinOp a .FloorDiv b pos) (tE P X.K Wx (op2 divV ca cb)) := s_op op_fdivW div_S ha hb
theorem s_pow (ha : PE X a (tE P X.K Wx ca)) (hb : PE X b (tE P X.K Wx cb)) : PE X (.BinOp a .Pow b pos) (tE P X.K Wx (op2 powV ca cb)) := s_op op_pow pow_S ha hb
theorem s_shl (ha : PE X a (tE P X.K Wx ca)) (hb : PE X b (tE P X.K Wx cb)) : PE X (.BinOp a .LShift b pos) (tE P X.K Wx (op2 shlV ca cb)) := s_op op_shl shl_S ha hb
theorem s_lt (ha : PE X a (tE P X.K Wx ca)) (hb : PE X b (tE P X.K Wx cb)) : PE X (.Compare a [.Lt] [b] pos) (tE P X.K Wx (op2 ltV ca cb)) := s_cmp op_lt (cmpI_S fun _ _ => rfl) ha hb (nomark _)
theorem s_le (ha : PE X a (tE P X.K Wx ca)) (hb : PE X b (tE P X.K Wx cb)) : PE X (.Compare a [.LtE] [b] pos) (tE P X.K Wx (op2 leV ca cb)) := s_cmp op_le (cmpI_S fun _ _ => rfl) ha hb (nomark _)
theorem s_gt (ha : PE X a (tE P X.K Wx ca)) (hb : PE X b (tE P X.K Wx cb)) : PE X (.Compare a [.Gt] [b] pos) (tE P X.K Wx (op2 gtV ca cb)) := s_cmp op_gt (cmpI_S fun _ _ => rfl) ha hb (nomark _)
theorem s_ge (ha : PE X a (tE P X.K Wx ca)) (hb : PE X b (tE P X.K Wx cb)) : PE X (.Compare a [.GtE] [b] pos) (tE P X.K Wx (op2 geV ca cb)) := s_cmp op_ge (cmpI_S fun _ _ => rfl) ha hb (nomark _)
theorem s_eq (hu : X.A.units + 64 < cLine) (ha : PE X a (tE P X.K Wx ca)) (hb : PE X b (tE P X.K Wx cb)) : PE X (.Compare a [.Eq] [b] pos) (tE P X.K Wx (op2 eqV ca cb)) := s_cmp (op_eqD2 hu) eq_S ha hb (nomark _)
theorem s_ne (hu : X.A.units + 64 < cLine) (ha : PE X a (tE P X.K Wx ca)) (hb : PE X b (tE P X.K Wx cb)) : PE X (.Compare a [.NotEq] [b] pos) (tE P X.K Wx (op2 neV ca cb)) := s_cmp (op_neD2 hu) ne_S ha hb (nomark _)
theorem s_is (ha : PE X a (tE P X.K Wx ca)) (hb : PE X b (tE P X.K Wx cb)) : PE X (.Compare a [.Is] [b] pos) (tE P X.K Wx (op2 isV ca cb)) := s_cmp op_isN is_S ha hb (nomark _)
theorem s_isnt (ha : PE X a (tE P X.K Wx ca)) (hb : PE X b (tE P X.K Wx cb)) : PE X (.Compare a [.IsNot] [b] pos) (tE P X.K Wx (op2 isntV ca cb)) := s_cmp op_notN isnt_S ha hb (nomark _)
theorem t_lt (ha : PE X a (tE P X.K Wx ca)) (hb : PE X b (tE P X.K Wx cb)) : PT X (.Compare a [.Lt] [b] pos) (tT P X.K Wx (tst (op2 ltV ca cb))) := t_cmp op_lt (cmpI_S fun _ _ => rfl) bo_cmpI ha hb (nomark _)
theorem t_le (ha : PE X a (tE P X.K Wx ca)) (hb : PE X b (tE P X.K Wx cb)) : PT X (.Compare a [.LtE] [b] pos) (tT P X.K Wx (tst (op2 leV ca cb))) := t_cmp op_le (cmpI_S fun _ _ => rfl) bo_cmpI ha hb (nomark _)
theorem t_gt (ha : PE X a (tE P X.K Wx ca)) (hb : PE X b (tE P X.K Wx cb)) : PT X (.Compare a [.Gt] [b] pos) (tT P X.K Wx (tst (op2 gtV ca cb))) := t_cmp op_gt (cmpI_S fun _ _ => rfl) bo_cmpI ha hb (nomark _)
theorem t_ge (ha : PE X a (tE P X.K Wx ca)) (hb : PE X b (tE P X.K Wx cb)) : PT X (.Compare a [.GtE] [b] pos) (tT P X.K Wx (tst (op2 geV ca cb))) := t_cmp op_ge (cmpI_S fun _ _ => rfl) bo_cmpI ha hb (nomark _)
theorem t_eq (hu : X.A.units + 64 < cLine) (ha : PE X a (tE P X.K Wx ca)) (hb : PE X b (tE P X.K Wx cb)) : PT X (.Compare a [.Eq] [b] pos) (tT P X.K Wx (tst (op2 eqV ca cb))) := t_cmp (op_eqD2 hu) eq_S bo_eq ha hb (nomark _)
theorem t_ne (hu : X.A.units + 64 < cLine) (ha : PE X a (tE P X.K Wx ca)) (hb : PE X b (tE P X.K Wx cb)) : PT X (.Compare a [.NotEq] [b] pos) (tT P X.K Wx (tst (op2 neV ca cb))) := t_cmp (op_neD2 hu) ne_S bo_ne ha hb (nomark _)
theorem t_is (ha : PE X a (tE P X.K Wx ca)) (hb : PE X b (tE P X.K Wx cb)) : PT X (.Compare a [.Is] [b] pos) (tT P X.K Wx (tst (op2 isV ca cb))) := t_cmp op_isN is_S bo_is ha hb (nomark _)
theorem t_isnt (ha : PE X a (tE P X.K Wx ca)) (hb : PE X b (tE P X.K Wx cb)) : PT X (.Compare a [.IsNot] [b] pos) (tT P X.K Wx (tst (op2 isntV ca cb))) := t_cmp op_notN isnt_S bo_isnt ha hb (nomark _)
theorem bo_inD {n : Bool} : Bo (inDV n) := fun s x y r e => by
  unfold inDV at e
  split at e <;> first | (cases e; done) | skip
  split at e <;> cases e
  exact ⟨_, rfl⟩
theorem t_inD (hu : X.A.units + 64 < cLine) (ha : PE X a (tE P X.K Wx ca)) (hb : PE X b (tE P X.K Wx cb)) (hm : behindInMarks .In b = false) : PT X (.Compare a [.In] [b] pos) (tT P X.K Wx (tst (op2 (inDV false) ca cb))) := t_cmp (op_inDT hu) inDT_S bo_inD ha hb hm
theorem t_notinD (hu : X.A.units + 64 < cLine) (ha : PE X a (tE P X.K Wx ca)) (hb : PE X b (tE P X.K Wx cb)) (hm : behindInMarks .NotIn b = false) : PT X (.Compare a [.NotIn] [b] pos) (tT P X.K Wx (tst (op2 (inDV true) ca cb))) := t_cmp (op_notInDT hu) inDT_S bo_inD ha hb hm
theorem s_len (hg : Gl X "len") (hm : X.mg "len" = none) (ha : PE X a (tE P X.K Wx ca)) (he : starEach [a] X.env = (false, eval a X.env) :: starEach [] X.env := by rfl) : PE X (.Call (.Name "len" p) [a] [] pos) (tE P X.K Wx (op1 lenV ca)) := s_callB cr_lenA len_S hg hm PySem.boot_len ha (by decide) (by decide) he
theorem s_abs (hg : Gl X "abs") (hm : X.mg "abs" = none) (ha : PE X a (tE P X.K Wx ca)) (he : starEach [a] X.env = (false, eval a X.env) :: starEach [] X.env := by rfl) : PE X (.Call (.Name "abs" p) [a] [] pos) (tE P X.K Wx (op1 absV ca)) := s_callB call_abs abs_S hg hm PyProof.Rows.boot_abs ha (by decide) (by decide) he
theorem s_all (hc : X.calm = true) (hg : Gl X "all") (hm : X.mg "all" = none) (ha : PE X a (tE P X.K Wx ca)) (he : starEach [a] X.env = (false, eval a X.env) :: starEach [] X.env := by rfl) : PE X (.Call (.Name "all" p) [a] [] pos) (tE P X.K Wx (op1 allV ca)) := s_callB (cr_all hc) all_S hg hm PyProof.Rows.boot_all ha (by decide) (by decide) he
theorem s_any (hc : X.calm = true) (hg : Gl X "any") (hm : X.mg "any" = none) (ha : PE X a (tE P X.K Wx ca)) (he : starEach [a] X.env = (false, eval a X.env) :: starEach [] X.env := by rfl) : PE X (.Call (.Name "any" p) [a] [] pos) (tE P X.K Wx (op1 anyV ca)) := s_callB (cr_any hc) any_S hg hm PyProof.Rows.boot_any ha (by decide) (by decide) he
theorem s_sum (hc : X.calm = true) (hg : Gl X "sum") (hm : X.mg "sum" = none) (ha : PE X a (tE P X.K Wx ca)) (he : starEach [a] X.env = (false, eval a X.env) :: starEach [] X.env := by rfl) : PE X (.Call (.Name "sum" p) [a] [] pos) (tE P X.K Wx (op1 sumV ca)) := s_callB (cr_sum hc) sum_S hg hm PyProof.Rows.boot_sum ha (by decide) (by decide) he
theorem s_intC (hg : Gl X "int") (hm : X.mg "int" = none) (ha : PE X a (tE P X.K Wx ca)) (he : starEach [a] X.env = (false, eval a X.env) :: starEach [] X.env := by rfl) : PE X (.Call (.Name "int" p) [a] [] pos) (tE P X.K Wx (op1 intV ca)) := s_callTy call_int1 int_S hg hm boot_int ha (by decide) (by decide) he
theorem s_strC (hg : Gl X "str") (hm : X.mg "str" = none) (ha : PE X a (tE P X.K Wx ca)) (he : starEach [a] X.env = (false, eval a X.env) :: starEach [] X.env := by rfl) : PE X (.Call (.Name "str" p) [a] [] pos) (tE P X.K Wx (op1 strV ca)) := s_callTy call_str_int str_S hg hm PyProof.Rows.boot_str ha (by decide) (by decide) he
theorem s_listC (hg : Gl X "list") (hm : X.mg "list" = none) (ha : PE X a (tE P X.K Wx ca)) (he : starEach [a] X.env = (false, eval a X.env) :: starEach [] X.env := by rfl) : PE X (.Call (.Name "list" p) [a] [] pos) (tE P X.K Wx (op1 listV ca)) := s_callTy call_list_of list_S hg hm PyProof.Rows.boot_list ha (by decide) (by decide) he
theorem s_tupC (hg : Gl X "tuple") (hm : X.mg "tuple" = none) (ha : PE X a (tE P X.K Wx ca)) (he : starEach [a] X.env = (false, eval a X.env) :: starEach [] X.env := by rfl) : PE X (.Call (.Name "tuple" p) [a] [] pos) (tE P X.K Wx (op1 tupleV ca)) := s_callTy call_tuple_of tuple_S hg hm boot_tuple ha (by decide) (by decide) he
theorem s_isiInt (hg : Gl X "isinstance") (hm : X.mg "isinstance" = none) (hgx : Gl X "int") (hmx : X.mg "int" = none) (ha : PE X a (tE P X.K Wx ca)) (he : starEach [a, .Name "int" p2] X.env = (false, eval a X.env) :: starEach [.Name "int" p2] X.env := by rfl) :
    PE X (.Call (.Name "isinstance" p) [a, .Name "int" p2] [] pos) (tE P X.K Wx (op1 (isiV .int) ca)) := s_isi (T := .int) boot_int hg hm hgx hmx ha (by decide) (by decide) he
theorem s_isiBool (hg : Gl X "isinstance") (hm : X.mg "isinstance" = none) (hgx : Gl X "bool") (hmx : X.mg "bool" = none) (ha : PE X a (tE P X.K Wx ca)) (he : starEach [a, .Name "bool" p2] X.env = (false, eval a X.env) :: starEach [.Name "bool" p2] X.env := by rfl) :
    PE X (.Call (.Name "isinstance" p) [a, .Name "bool" p2] [] pos) (tE P X.K Wx (op1 (isiV .bool) ca)) := s_isi (T := .bool) PyProof.Rows.boot_bool hg hm hgx hmx ha (by decide) (by decide) he
theorem s_isiTup (hg : Gl X "isinstance") (hm : X.mg "isinstance" = none) (hgx : Gl X "tuple") (hmx : X.mg "tuple" = none) (ha : PE X a (tE P X.K Wx ca)) (he : starEach [a, .Name "tuple" p2] X.env = (false, eval a X.env) :: starEach [.Name "tuple" p2] X.env := by rfl) :
    PE X (.Call (.Name "isinstance" p) [a, .Name "tuple" p2] [] pos) (tE P X.K Wx (op1 (isiV .tup) ca)) := s_isi (T := .tup) boot_tuple hg hm hgx hmx ha (by decide) (by decide) he
theorem s_isiStr (hg : Gl X "isinstance") (hm : X.mg "isinstance" = none) (hgx : Gl X "str") (hmx : X.mg "str" = none) (ha : PE X a (tE P X.K Wx ca)) (he : starEach [a, .Name "str" p2] X.env = (false, eval a X.env) :: starEach [.Name "str" p2] X.env := by rfl) :
    PE X (.Call (.Name "isinstance" p) [a, .Name "str" p2] [] pos) (tE P X.K Wx (op1 (isiV .str) ca)) := s_isi (T := .str) PyProof.Rows.boot_str hg hm hgx hmx ha (by decide) (by decide) he
theorem s_append (ho : PE X o (tE P X.K Wx co)) (ha : PA X [e] (tA P X.K Wx ct)) (hbase : attributeBase o "append" X.env (eval o X.env) = eval o X.env := by rfl)
    (hfew : ((backTo cpos (starEach [e] X.env)).all (fun x => !x.1) && (backToKw cpos (keywordEach [] X.env)).all (fun x => x.1.isSome)
      && decide ([e].length + ([] : List Keyword).length + (if ([] : List Keyword).isEmpty then 0 else 1) < 30)) = true := by rfl)
    (hline : (apos.endLine == cpos.line) = true := by rfl) (hs : starEach [e] X.env = (false, eval e X.env) :: starEach [] X.env := by rfl) (hplain : (backTo cpos (starEach [] X.env)).any (·.1) = false := by rfl) :
    PE X (.Call (.Attribute o "append" apos) [e] [] cpos) (tE P X.K Wx (meth appendV co ct)) := s_meth PySem.F.slot_list_append PySem.F.type_list_append mt_append append_M ho ha hbase hfew hline hs hplain
theorem s_pop0 (ho : PE X o (tE P X.K Wx co)) (hbase : attributeBase o "pop" X.env (eval o X.env) = eval o X.env := by rfl) (hline : (apos.endLine == cpos.line) = true := by rfl) :
    PE X (.Call (.Attribute o "pop" apos) [] [] cpos) (tE P X.K Wx (meth popV co asN)) := s_meth0 PySem.F.slot_list_pop PySem.F.type_list_pop mt_pop2 pop_M ho hbase hline
theorem s_pop1 (ho : PE X o (tE P X.K Wx co)) (ha : PA X [e] (tA P X.K Wx ct)) (hbase : attributeBase o "pop" X.env (eval o X.env) = eval o X.env := by rfl)
    (hfew : ((backTo cpos (starEach [e] X.env)).all (fun x => !x.1) && (backToKw cpos (keywordEach [] X.env)).all (fun x => x.1.isSome)
      && decide ([e].length + ([] : List Keyword).length + (if ([] : List Keyword).isEmpty then 0 else 1) < 30)) = true := by rfl)
    (hline : (apos.endLine == cpos.line) = true := by rfl) (hs : starEach [e] X.env = (false, eval e X.env) :: starEach [] X.env := by rfl) (hplain : (backTo cpos (starEach [] X.env)).any (·.1) = false := by rfl) :
    PE X (.Call (.Attribute o "pop" apos) [e] [] cpos) (tE P X.K Wx (meth popV co ct)) := s_meth PySem.F.slot_list_pop PySem.F.type_list_pop mt_pop2 pop_M ho ha hbase hfew hline hs hplain
theorem s_insert (ho : PE X o (tE P X.K Wx co)) (ha : PA X [e, c] (tA P X.K Wx ct)) (hbase : attributeBase o "insert" X.env (eval o X.env) = eval o X.env := by rfl)
    (hfew : ((backTo cpos (starEach [e, c] X.env)).all (fun x => !x.1) && (backToKw cpos (keywordEach [] X.env)).all (fun x => x.1.isSome)
      && decide ([e, c].length + ([] : List Keyword).length + (if ([] : List Keyword).isEmpty then 0 else 1) < 30)) = true := by rfl)
    (hline : (apos.endLine == cpos.line) = true := by rfl) (hs : starEach [e, c] X.env = (false, eval e X.env) :: starEach [c] X.env := by rfl) (hplain : (backTo cpos (starEach [c] X.env)).any (·.1) = false := by rfl) :
    PE X (.Call (.Attribute o "insert" apos) [e, c] [] cpos) (tE P X.K Wx (meth insertV co ct)) := s_meth PySem.F.slot_list_insert PySem.F.type_list_insert mt_insA insert_M ho ha hbase hfew hline hs hplain
end
end Mn
namespace Mn
open PySem PySem.Spec PyProof.Rows L2
theorem chE_bool {f g : S → R → R → Option R} {ca cb cc : Ex} (hb : Bo f) (hg : Bo g) : ∀ s r s', chE f g ca cb cc s = .ok r s' → ∃ k, r = bR k := fun s r s' h => by
  unfold chE at h
  cases q : ca s with
  | bad => rw [q] at h; cases h
  | exc _ _ _ => rw [q] at h; cases h
  | ok x s1 =>
    rw [q] at h
    simp only [Res.bind_ok] at h
    cases q2 : cb s1 with
    | bad => rw [q2] at h; cases h
    | exc _ _ _ => rw [q2] at h; cases h
    | ok y s2 =>
      rw [q2] at h
      simp only [Res.bind_ok] at h
      cases q3 : f s2 x y with
      | none => rw [q3] at h; cases h
      | some r' =>
        obtain ⟨k, rfl⟩ := hb _ _ _ _ q3
        rw [q3] at h
        cases k with
        | false => cases h; exact ⟨_, rfl⟩
        | true =>
          simp only at h
          cases q4 : cc s2 with
          | bad => rw [q4] at h; cases h
          | exc _ _ _ => rw [q4] at h; cases h
          | ok z s3 =>
            rw [q4] at h
            simp only [Res.bind_ok] at h
            cases q5 : g s3 y z with
            | none => rw [q5] at h; cases h
            | some r' => rw [q5] at h; cases h; exact hg _ _ _ _ q5
section
variable {X : Cx} {P : Pr} {Wx : WX} {pos : Pos} {a b c : PySem.Expr} {ca cb cc : Ex} {f g : S → R → R → Option R} {rr rr' : R2}
theorem t_chain {op op' : CmpOp} (ho : OpR X (compareOp op) rr) (ho' : OpR X (compareOp op') rr') (hf : OpS P X.K rr f) (hg : OpS P X.K rr' g) (hb : Bo f) (hb2 : Bo g) (ha : PE X a (tE P X.K Wx ca)) (hb' : PE X b (tE P X.K Wx cb)) (hc : PE X c (tE P X.K Wx cc))
    (hm : lastMarks [op, op'] [b, c] = false := by with_unfolding_all rfl) : PT X (.Compare a [op, op'] [b, c] pos) (tT P X.K Wx (tst (chE f g ca cb cc))) := PT_imp (pt_chain ho ho' ha hb' hc hm) fun _ _ _ h => tCh_of hf hg hb (tst_bool (chE_bool hb hb2) h)
end
end Mn

end
section
set_option Elab.async false
set_option linter.all false
set_option maxRecDepth 100000
set_option maxHeartbeats 4000000
/-! MnRule12: objects of own classes; what is not reached. -/
namespace Mn
open PySem PySem.Spec PyProof.Rows L2
/-! ### what is not reached -/
section
variable {X : Cx} {P : Pr} {Wx : WX}
theorem s_bad {e : PySem.Expr} : PE X e (tE P X.K Wx badE) := ⟨fun _ _ _ _ _ _ ⟨_, _, _, h⟩ => h.elim⟩
theorem t_bad {e : PySem.Expr} : PT X e (tT P X.K Wx badT) := ⟨fun _ _ _ _ _ _ ⟨_, _, _, h⟩ => h.elim⟩
theorem c_bad {e : PySem.Stmt} : PS X e (tS P X.K Wx badS) := ⟨fun _ _ _ _ _ _ ⟨_, _, _, h⟩ => h.elim⟩
theorem i_bad {tg e : PySem.Expr} : PI X tg e (tI P X.K Wx badI) := ⟨fun _ _ _ _ _ _ ⟨_, _, _, h⟩ => h.elim⟩
end
/-! ### fields -/
def Inj (P : Pr) : Prop := ∀ m n, P.fn m = P.fn n → m = n
section
variable {P : Pr} {K : PySem.W.Frag} {μ : List Addr} {s s' : S} {σ : L2.St} {H : Hp}
theorem simF_look (inj : Inj P) {n : Nat} {w : W} : ∀ {fs : List (Nat × W)} {gs : List (PySem.Str × V)}, SimF P K μ H fs gs → lookF fs n = some w → ∃ v, gs.lookup (P.fn n) = some v ∧ SimW K μ H w v
  | _, _, .nil, e => by cases e
  | (m, x) :: fs, (g, y) :: gs, .cons h r, e => by
    obtain ⟨h1, h2⟩ := h
    have h1 : P.fn m = g := h1
    unfold lookF at e
    by_cases q : m = n
    · rw [if_pos q] at e
      cases e
      subst q
      refine ⟨y, ?_, h2⟩
      rw [List.lookup_cons, h1, beq_self_eq_true]
    · rw [if_neg q] at e
      obtain ⟨v, e1, e2⟩ := simF_look inj r e
      refine ⟨v, ?_, e2⟩
      have : (P.fn n == g) = false := beq_eq_false_iff_ne.mpr fun z => q (inj m n (h1.trans z.symm))
      rw [List.lookup_cons, this]
      exact e1
theorem simF_none (inj : Inj P) {n : Nat} : ∀ {fs : List (Nat × W)} {gs : List (PySem.Str × V)}, SimF P K μ H fs gs → lookF fs n = none → gs.lookup (P.fn n) = none
  | _, _, .nil, e => rfl
  | (m, x) :: fs, (g, y) :: gs, .cons h r, e => by
    obtain ⟨h1, h2⟩ := h
    have h1 : P.fn m = g := h1
    unfold lookF at e
    by_cases q : m = n
    · rw [if_pos q] at e; cases e
    · rw [if_neg q] at e
      have : (P.fn n == g) = false := beq_eq_false_iff_ne.mpr fun z => q (inj m n (h1.trans z.symm))
      rw [List.lookup_cons, this]
      exact simF_none inj r e
theorem simF_put (inj : Inj P) {n : Nat} {w : W} {v : V} (rv : SimW K μ H w v) : ∀ {fs : List (Nat × W)} {gs : List (PySem.Str × V)}, SimF P K μ H fs gs → SimF P K μ H (putFs fs n w) (putF (P.fn n) v gs)
  | _, _, .nil => .cons ⟨rfl, rv⟩ .nil
  | (m, x) :: fs, (g, y) :: gs, .cons h r => by
    obtain ⟨h1, h2⟩ := h
    have h1 : P.fn m = g := h1
    unfold putFs putF
    by_cases q : m = n
    · rw [if_pos q, if_pos (by rw [← h1, q])]
      exact .cons ⟨h1, rv⟩ r
    · rw [if_neg q, if_neg fun z => q (inj m n (h1.trans z))]
      exact .cons ⟨h1, h2⟩ (simF_put inj rv r)
/-- a field is read -/
theorem fld_S (inj : Inj P) {cs : List Nat} {n : Nat} {r x : R} {v : V} (I : Sim P K μ s σ H) (rv : RepR P K μ s σ H r v) (e : fldV cs n s r = some x) :
    ∃ a c dx gs w u, v = .ref a ∧ c ∈ cs ∧ H a = some (.ins (P.ca c) dx gs) ∧ gs.lookup (P.fn n) = some u ∧ x = .w w ∧ SimW K μ H w u := by
  unfold fldV at e
  split at e <;> first | (cases e; done) | skip
  rename_i c fs q
  split at e <;> first | (cases e; done) | skip
  rename_i hc
  obtain ⟨w, e1, rfl⟩ := Option.map_eq_some_iff.mp e
  obtain ⟨a, rfl, ⟨dx, gs, e2, e3, rf⟩, _⟩ := I.obj rv q
  obtain ⟨u, l1, l2⟩ := simF_look inj rf e1
  exact ⟨a, c, dx, gs, w, u, rfl, hc, e2, l1, rfl, l2⟩
/-- a field is written -/
theorem setF_S (inj : Inj P) {cs : List Nat} {n : Nat} {r : R} {v y : V} {w : W} {μ₀ : List Addr} {s₀ : S} {H₀ : Hp} (A : Aft P K μ₀ s₀ σ H₀ μ s H) (rv : RepR P K μ s σ H r v) (rw' : SimW K μ H w y) (e : setF cs n r w s = some s') :
    ∃ a c dx gs, v = .ref a ∧ c ∈ cs ∧ H a = some (.ins (P.ca c) dx gs) ∧ gs.length < 1000 ∧ Aft P K μ₀ s₀ σ H₀ μ s' (upd H a (.ins (P.ca c) dx (putF (P.fn n) y gs))) := by
  unfold setF at e
  split at e <;> first | (cases e; done) | skip
  rename_i p q
  split at e <;> first | (cases e; done) | skip
  rename_i c fs q2
  split at e <;> cases e
  rename_i hc
  obtain ⟨a, rfl, ha, dx, gs, e2, e3, rf⟩ := A.sim.locAt rv q q2
  have hlen : fs.length = gs.length := Paired.length rf
  refine ⟨a, c, dx, gs, rfl, hc.1, e2, by rw [← hlen]; exact hc.2, ?_⟩
  have ne : dx ≠ a := fun z => by subst z; rw [e2] at e3; cases e3
  refine A.trans (A.sim.write q2 (fun _ z => nomatch z) ha ⟨dx, _, upd_same, by rw [upd_ne ne]; exact e3, ?_⟩)
  exact (simF_put inj rw' rf).mono (tups_upd A.sim ha.foot) (List.prefix_refl _)
end
section
variable {X : Cx} {P : Pr} {Wx : WX} {pos pos' p apos tpos : Pos} {o e : PySem.Expr} {es : List PySem.Expr} {co ce : Ex} {cs : List Nat} {n : Nat} {f : PySem.Str}
theorem s_fld (inj : Inj P) (hf : P.fn n = f) (hc : ∀ c ∈ cs, Cls X.K (P.ca c) ∧ NoAttr X.K (P.ca c) f) (he : PE X o (tE P X.K Wx co)) (hb : attributeBase o f X.env (eval o X.env) = eval o X.env := by rfl) : PE X (.Attribute o f pos) (tE P X.K Wx (op1 (fldV cs n) co)) :=
  PE_imp (pe_fld he hb) fun σ H Q h => by
  obtain ⟨μ, s, I, h⟩ := h
  refine ⟨μ, s, I, (Pst.bind h).mono fun r s1 μ1 H1 A h v rv fv => ?_⟩
  cases q : fldV cs n s1 r with
  | none => rw [q] at h; exact h.elim
  | some x =>
    rw [q] at h
    obtain ⟨a, c, dx, gs, w, u, rfl, hm, e1, e2, rfl, e3⟩ := fld_S inj A.sim rv q
    exact ⟨a, _, dx, gs, u, rfl, e1, (hc c hm).1, (hc c hm).2, by rw [← hf]; exact e2, h μ1 H1 A u e3 trivial⟩
theorem c_fld (inj : Inj P) (hf : P.fn n = f) (hc : ∀ c ∈ cs, Cls X.K (P.ca c) ∧ NoAttr X.K (P.ca c) f) (ho : PE X o (tE P X.K Wx co)) (he : PE X e (tE P X.K Wx ce)) (hs : swapsWith e (some (.Attribute o f pos')) pos.line X.env = pure false := by rfl) :
    PS X (.Assign [.Attribute o f pos'] e pos) (tS P X.K Wx (fldS cs n co ce)) := PS_imp (ps_fld ho he hs) fun D σ H h => by
  obtain ⟨μ, s, I, h⟩ := h
  refine ⟨μ, s, I, (PstS.res h).mono fun r s1 μ1 H1 A h v rv fv => ?_⟩
  refine ⟨μ1, s1, A.sim, ((PstS.res h).from A).mono fun ro s2 μ2 H2 B h vo rvo fvo => ?_⟩
  have AB := A.trans B
  have rv2 := rv.aft A.sim B
  cases q : boxR r s2 with
  | none => rw [q] at h; exact h.elim
  | some y =>
    obtain ⟨x, s3⟩ := y
    rw [q] at h
    obtain ⟨μ3, C, sw⟩ := AB.sim.box rv2 q
    have A3 := C.aft AB fun a ha => by obtain ⟨⟨o, rfl⟩, rfl⟩ := ha; exact fv
    have h : PstS P X.K Wx μ s σ H (ofOpt (setF cs n ro x s3)) D := h
    cases q2 : setF cs n ro x s3 with
    | none => rw [q2] at h; exact h.elim
    | some s4 =>
      rw [q2] at h
      have nn : ∀ a, ¬ isNew ro vo a := fun a ⟨⟨o, z⟩, _⟩ => by
        subst z
        exact nomatch (show (none : Option S) = some s4 from q2)
      have rvo3 := rvo.bx C fun a ha => absurd ha (nn a)
      obtain ⟨a, c, dx, gs, rfl, hm, e1, e2, A4⟩ := setF_S inj A3 rvo3 sw q2
      exact ⟨a, _, dx, gs, rfl, e1, (hc c hm).1, (hc c hm).2, e2, by rw [← hf]; exact h μ3 σ _ A4.toS⟩
/-- op= by values -/
def InS (P : Pr) (K : PySem.W.Frag) (rd : V → V → Hp → VK → Prop) (g : S → R → R → Option R) : Prop := ∀ (μ : List Addr) (s : S) (σ : L2.St) (H : Hp) (x y : R) (v1 v2 : V) (w : W) (Q : VK), Sim P K μ s σ H → RepR P K μ s σ H x v1 → RepR P K μ s σ H y v2 → g s x y = some (.w w) →
  (∀ z, (∀ μ' H', SimW K μ' H' w z) → Q z H) → rd v1 v2 H Q
theorem augSub_S {K : PySem.W.Frag} : InS P K L2.rSub augSub := fun μ s σ H x y v1 v2 w Q I r1 r2 e h => by
  unfold augSub at e
  split at e <;> cases e
  cases rep_int r1
  cases rep_int r2
  exact ⟨_, _, rfl, rfl, h _ fun _ _ => .d (.int _)⟩
def rAdd2 : V → V → Hp → VK → Prop := fun x y H Q => L2.rAdd x y H Q ∨ ∃ i j, x = .str i ∧ y = .str j ∧ i.length + j.length ≤ sizeLine ∧ Q (.str (i ++ j)) H
theorem augAdd_S {K : PySem.W.Frag} : InS P K rAdd2 augAdd := fun μ s σ H x y v1 v2 w Q I r1 r2 e h => by
  unfold augAdd at e
  split at e
  · cases e
    cases rep_int r1
    cases rep_int r2
    exact .inl ⟨_, _, rfl, rfl, h _ fun _ _ => .d (.int _)⟩
  · split at e <;> cases e
    rename_i hl
    obtain ⟨rfl, b1⟩ := rep_str r1
    obtain ⟨rfl, b2⟩ := rep_str r2
    refine .inr ⟨_, _, rfl, rfl, by rw [sig_len, sig_len, ← LN_eq]; exact hl, ?_⟩
    rw [← sig_app]
    exact h _ fun _ _ => .d (.str _ fun c hc => by
      rcases List.mem_append.mp hc with z | z
      · exact b1 c z
      · exact b2 c z)
  · cases e
theorem c_fldaug {op : Operator} {rd : V → V → Hp → VK → Prop} {g : S → R → R → Option R} (inj : Inj P) (hf : P.fn n = f) (hc : ∀ c ∈ cs, Cls X.K (P.ca c) ∧ NoAttr X.K (P.ca c) f) (hop : InOp X op rd) (hg : InS P X.K rd g) (ho : PE X o (tE P X.K Wx co)) (he : PE X e (tE P X.K Wx ce)) :
    PS X (.AugAssign (.Attribute o f tpos) op e pos) (tS P X.K Wx (augF g cs n co ce)) := PS_imp (ps_fldaug ho he hop) fun D σ H h => by
  obtain ⟨μ, s, I, h⟩ := h
  refine ⟨μ, s, I, (PstS.res h).mono fun r s1 μ1 H1 A h v rv fv => ?_⟩
  split at h <;> first | exact h.elim | skip
  rename_i c fs q
  split at h <;> first | exact h.elim | skip
  rename_i w q1
  split at q1 <;> first | (cases q1; done) | skip
  rename_i hm
  obtain ⟨a, rfl, ⟨dx, gs, e1, e3, rf⟩, _⟩ := A.sim.obj rv q
  obtain ⟨u, e2, e4⟩ := simF_look inj rf q1
  refine ⟨a, _, dx, gs, u, rfl, e1, (hc c hm).1, (hc c hm).2, by rw [← hf]; exact e2, ?_⟩
  refine ⟨μ1, s1, A.sim, ((PstS.res h).from A).mono fun y s2 μ2 H2 B h vy ry fy => ?_⟩
  have AB := A.trans B
  have ru : RepR P X.K μ2 s2 σ H2 (.w w) u := RepR.aft (r := .w w) A.sim B e4
  have rv2 := rv.aft A.sim B
  split at h <;> first | exact h.elim | skip
  rename_i z q3
  refine hg μ2 s2 σ H2 _ y u vy z _ AB.sim ru ry q3 fun zv rz => ?_
  cases q2 : setF [c] n r z s2 with
  | none => rw [q2] at h; exact h.elim
  | some s4 =>
    rw [q2] at h
    obtain ⟨a', c', dx', gs', ea, hm', e1', e2', A4⟩ := setF_S inj AB rv2 (rz _ _) q2
    cases ea
    cases List.mem_singleton.mp hm'
    exact ⟨dx', gs', e1', e2', by rw [← hf]; exact h μ2 σ _ A4.toS⟩
/-! ### x op= e -/
theorem c_aug {i : Nat} {x : PySem.Str} {op : Operator} {rd : V → V → Hp → VK → Prop} {g : S → R → R → Option R} (hN : X.N.Nodup) (hi : X.N[i]? = some x) (hx : Loc X.env.scope x) (hop : PIp X op rd) (hg : InS P X.K rd g) (he : PE X e (tE P X.K Wx ce))
    (hfn : X.fn x = true ∨ X.env.scope.names.lookup x = some .local := by first | exact .inl rfl | exact .inr rfl | assumption) :
    PS X (.AugAssign (.Name x pos') op e pos) (tS P X.K Wx (augS g i ce)) := PS_imp (ps_aug hN hi hx he hop hfn) fun D σ H h => by
  obtain ⟨μ, s, I, h⟩ := h
  unfold augS at h
  cases q : s.ρ[i]? with
  | none => rw [q] at h; exact h.elim
  | some e0 =>
    rw [q] at h
    cases e0 with
    | un => exact h.elim
    | own o => exact h.elim
    | w w0 =>
      obtain ⟨v0, ev, sv⟩ := paired_get I.env q
      cases v0 with
      | none => exact sv.elim
      | some u =>
        refine ⟨u, ev, μ, s, I, (PstS.res h).mono fun y s1 μ1 H1 A h vy ry fy => ?_⟩
        have ru : RepR P X.K μ1 s1 σ H1 (.w w0) u := RepR.aft (r := .w w0) I A sv
        split at h <;> first | exact h.elim | skip
        rename_i z q3
        refine hg μ1 s1 σ H1 _ y u vy z _ A.sim ru ry q3 fun zv rz => ?_
        cases q2 : asg i (.w z) s1 with
        | none => rw [q2] at h; exact h.elim
        | some s2 =>
          rw [q2] at h
          obtain ⟨μ2, A2⟩ := Sim.asgOk (r := .w z) A.toS (rz μ1 H1) trivial q2
          exact h μ2 _ H1 A2
end
end Mn

end
section
set_option Elab.async false
set_option linter.all false
set_option maxRecDepth 100000
set_option maxHeartbeats 4000000
/-! MnRule13: methods of own classes, new instances, op=. -/
namespace Mn
open PySem PySem.Spec PyProof.Rows L2
section
variable {X : Cx} {P : Pr} {Wx : WX} {pos pos' p apos tpos : Pos} {o e : PySem.Expr} {es : List PySem.Expr} {co ce : Ex} {cs : List Nat} {n : Nat} {f : PySem.Str}
theorem in_add2 : InOp X .Add rAdd2 := fun pins s σ H x y u v Q I rx ry h => h.elim (fun h => L2.in_add pins s σ H x y u v Q I rx ry h) fun h => L2.in_addS pins s σ H x y u v Q I rx ry h
theorem pi_add2 : PIp X .Add rAdd2 := fun pins s σ H x y v u Q I rx ry h => in_add2 pins s σ H x y v u Q I rx ry h
theorem pi_sub2 : PIp X .Sub L2.rSub := fun pins s σ H x y v u Q I rx ry h => L2.in_sub pins s σ H x y v u Q I rx ry h
theorem c_fldAdd (inj : Inj P) (hf : P.fn n = f) (hc : ∀ c ∈ cs, Cls X.K (P.ca c) ∧ NoAttr X.K (P.ca c) f) (ho : PE X o (tE P X.K Wx co)) (he : PE X e (tE P X.K Wx ce)) : PS X (.AugAssign (.Attribute o f tpos) .Add e pos) (tS P X.K Wx (augF augAdd cs n co ce)) := c_fldaug inj hf hc in_add2 augAdd_S ho he
theorem c_fldSub (inj : Inj P) (hf : P.fn n = f) (hc : ∀ c ∈ cs, Cls X.K (P.ca c) ∧ NoAttr X.K (P.ca c) f) (ho : PE X o (tE P X.K Wx co)) (he : PE X e (tE P X.K Wx ce)) : PS X (.AugAssign (.Attribute o f tpos) .Sub e pos) (tS P X.K Wx (augF augSub cs n co ce)) := c_fldaug inj hf hc L2.in_sub augSub_S ho he
theorem c_augAdd {i : Nat} {x : PySem.Str} (hN : X.N.Nodup) (hi : X.N[i]? = some x) (hx : Loc X.env.scope x) (he : PE X e (tE P X.K Wx ce)) (hfn : X.fn x = true ∨ X.env.scope.names.lookup x = some .local := by first | exact .inl rfl | exact .inr rfl | assumption) :
    PS X (.AugAssign (.Name x pos') .Add e pos) (tS P X.K Wx (augS augAdd i ce)) := c_aug hN hi hx pi_add2 augAdd_S he hfn
theorem c_augSub {i : Nat} {x : PySem.Str} (hN : X.N.Nodup) (hi : X.N[i]? = some x) (hx : Loc X.env.scope x) (he : PE X e (tE P X.K Wx ce)) (hfn : X.fn x = true ∨ X.env.scope.names.lookup x = some .local := by first | exact .inl rfl | exact .inr rfl | assumption) :
    PS X (.AugAssign (.Name x pos') .Sub e pos) (tS P X.K Wx (augS augSub i ce)) := c_aug hN hi hx pi_sub2 augSub_S he hfn
end
section
variable {X : Cx} {P : Pr} {Wx : WX} {pos p apos : Pos} {o e : PySem.Expr} {es : List PySem.Expr} {co : Ex} {as : As} {call : Call} {i k c mn : Nat} {g : Addr} {fd : FuncData} {ps : List PySem.Str} {m x : PySem.Str}
/-! ### o.m(..) -/
def tMethS (C : Addr) (m : PySem.Str) (sp : Sp) (E : L2.St → XK) (ta : TE) (t : TA) : TE := fun σ H Q => ta σ H fun y H1 => ∃ a dx gs, y = .ref a ∧ H1 a = some (.ins C dx gs) ∧ gs.lookup m = none ∧ t σ H1 fun vs H2 => sp (y :: vs) H2 Q (E σ)
theorem pe_ownM {C : Addr} {sp : Sp} {E : L2.St → XK} {ta : TE} {t : TA} {pl : Sem Bool} (ho : PE X o ta) (hC : Cls X.K C) (hM : Meth X.K C m g) (F : FnOk X.prog X.w X.K X.mg X.base (L2.CX X.prog X.w) k g fd ps sp) (hr : Room k X.A) (hb : Binds X.K fd ps []) (hx : ∀ σ, PassesAt (L2.CX X.prog X.w) X σ (E σ)) (hA : PA X (e :: es) t)
    (hst : starEach (e :: es) X.env = (false, eval e X.env) :: starEach es X.env := by rfl) (hpl : (backTo pos (starEach es X.env)).any (·.1) = false := by rfl)
    (hT : eval (.Call (.Attribute o m apos) (e :: es) [] pos) X.env = (do
      let ov ← eval o X.env
      standAt apos.atName
      let (f, first) ← holding [ov] (getMethod ov m pl)
      callWith pos f first (backTo pos (starEach (e :: es) X.env)) (backToKw pos (keywordEach [] X.env))) := by rfl) :
    PE X (.Call (.Attribute o m apos) (e :: es) [] pos) (tMethS C m sp E ta t) := ⟨fun pins s σ H Q J h =>
  PySem.W.methodCall_KW (pl := pl) (thn (ho.run pins s σ H _ J h) fun u s1 ⟨y, H1, J1, ry, a, dx, gs, ey, ea, el, q⟩ => by
    cases ey
    cases (show u = Value.ref a from ry)
    exact getmeth_ok J1 ea hC hM el (PySem.W.callWith_K (first := [.ref a]) (h₀ := X.base) J.ok.mod.kin hM.kp (thn (hA.run pos pins s1 σ H1 _ J1 q) fun us s2 ⟨vs, H2, J2, rs, q2⟩ =>
      ⟨J2.kIn, run_fnS (us := .ref a :: us) (vs := .ref a :: vs) F hr hb (hx σ) J2 (.cons rfl rs) q2⟩) hst hpl)) hT⟩
theorem pe_ownM0 {C : Addr} {sp : Sp} {E : L2.St → XK} {ta : TE} {pl : Sem Bool} (ho : PE X o ta) (hC : Cls X.K C) (hM : Meth X.K C m g) (F : FnOk X.prog X.w X.K X.mg X.base (L2.CX X.prog X.w) k g fd ps sp) (hr : Room k X.A) (hb : Binds X.K fd ps []) (hx : ∀ σ, PassesAt (L2.CX X.prog X.w) X σ (E σ))
    (hT : eval (.Call (.Attribute o m apos) [] [] pos) X.env = (do
      let ov ← eval o X.env
      standAt apos.atName
      let (f, first) ← holding [ov] (getMethod ov m pl)
      callWith pos f first (backTo pos (starEach [] X.env)) (backToKw pos (keywordEach [] X.env))) := by rfl) :
    PE X (.Call (.Attribute o m apos) [] [] pos) (tMethS C m sp E ta tNil) := ⟨fun pins s σ H Q J h =>
  PySem.W.methodCall_KW (pl := pl) (thn (ho.run pins s σ H _ J h) fun u s1 ⟨y, H1, J1, ry, a, dx, gs, ey, ea, el, q⟩ => by
    cases ey
    cases (show u = Value.ref a from ry)
    exact getmeth_ok J1 ea hC hM el (PySem.W.callWith_K0 (first := [.ref a]) J1.kIn hM.kp (run_fnS (us := [.ref a]) (vs := [.ref a]) F hr hb (hx σ) J1 (.cons rfl .nil) q))) hT⟩
/-- what Mn's method call asks is what the layer's asks -/
theorem meth_of (inj : Inj P) (hm : P.fn mn = m) {N : Nat} (hN : ∀ s rs s', as s = .ok rs s' → rs.length + 1 = N) {t : TA} (ht : ∀ σ H Q, tA P X.K Wx as σ H Q → t σ H Q) {σ : L2.St} {H : Hp} {Q : VK} (h : tE P X.K Wx (methE call c i mn co as) σ H Q) :
    tMethS (P.ca c) m (spF P X.K call i N) (WE Wx) (tE P X.K Wx co) t σ H Q := by
  obtain ⟨μ, s, I, h0⟩ := h
  refine ⟨μ, s, I, (Pst.bind h0).mono fun r s1 μ1 H1 A h v rv fv => ?_⟩
  clear h0
  cases q : objR s1 r with
  | none => rw [q] at h; exact h.elim
  | some ob =>
  rw [q] at h
  cases ob with
  | lst _ => exact h.elim
  | dct _ _ => exact h.elim
  | ins c' fs =>
  have h1 : Pst P X.K Wx μ s σ H (if c' = c ∧ lookF fs mn = none then ((as s1).bind fun rs s2 => match boxes (r :: rs) s2 with
    | some (ws, s3) => backC s3.ρ (call i ws s3.h)
    | none => .bad) else .bad) fun r s' μ' H' => ∀ v, RepR P X.K μ' s' σ H' r v → Frs H r v → Q v H' := h
  clear h
  by_cases hc : c' = c ∧ lookF fs mn = none
  case neg => rw [if_neg hc] at h1; exact h1.elim
  rw [if_pos hc] at h1
  obtain ⟨rfl, hn⟩ := hc
  obtain ⟨a, rfl, ⟨dx, gs, e1, e2, rf⟩, _⟩ := A.sim.obj rv q
  refine ⟨a, dx, gs, rfl, e1, by rw [← hm]; exact simF_none inj rf hn, ht _ _ _ ⟨μ1, s1, A.sim, ?_⟩⟩
  have h := (Pst.bind h1).from A
  cases qa : as s1 with
  | bad => rw [qa] at h; exact h.elim
  | exc c xs s2 => rw [qa] at h; exact h
  | ok rs s2 =>
    rw [qa] at h
    intro μ2 H2 B us rus fus
    have AB := A.trans B
    have h : Pst P X.K Wx μ s σ H (match boxes (r :: rs) s2 with
      | some (ws, s3) => backC s3.ρ (call i ws s3.h)
      | none => .bad) _ := h μ2 H2 B
    cases qb : boxes (r :: rs) s2 with
    | none => rw [qb] at h; exact h.elim
    | some y =>
      obtain ⟨ws, s3⟩ := y
      rw [qb] at h
      have rr : RepRs P X.K μ2 s2 σ H2 (r :: rs) (.ref a :: us) := .cons (rv.aft A.sim B) rus fun b hb hm => by
        obtain ⟨⟨o, rfl⟩, hz⟩ := hb
        cases hz
        obtain ⟨b', e3, q3, _⟩ := rv
        cases e3
        exact q3.notup.2.2 (fus _ hm)
      obtain ⟨μ3, C, rw'⟩ := AB.sim.boxesOk rr qb
      refine run_of ?_ (C.aft AB fun b hb => ?_) rw' h
      · rw [List.length_cons, ← Paired.length rus.all, hN s1 rs s2 qa]
      · cases r with
        | new o =>
          simp only [newsOf, List.mem_cons] at hb
          rcases hb with rfl | hb
          · exact fv
          · exact A.step.live _ (fus b hb)
        | w x => exact A.step.live _ (fus b (by simpa [newsOf] using hb))
        | slot j => exact A.step.live _ (fus b (by simpa [newsOf] using hb))
theorem s_ownM (inj : Inj P) (hm : P.fn mn = m) (hC : Cls X.K (P.ca c)) (hM : Meth X.K (P.ca c) m g) (F : FnOk X.prog X.w X.K X.mg X.base (L2.CX X.prog X.w) k g fd ps (spF P X.K call i ps.length)) (tk : Takes X Wx) (hr : Room k X.A) (hb : Binds X.K fd ps [])
    (hl : (e :: es).length + 1 = ps.length) (hlen : ∀ s rs s', as s = .ok rs s' → rs.length = (e :: es).length) {pl : Sem Bool} (ho : PE X o (tE P X.K Wx co)) (hA : PA X (e :: es) (tA P X.K Wx as))
    (hst : starEach (e :: es) X.env = (false, eval e X.env) :: starEach es X.env := by rfl) (hpl : (backTo pos (starEach es X.env)).any (·.1) = false := by rfl)
    (hT : eval (.Call (.Attribute o m apos) (e :: es) [] pos) X.env = (do
      let ov ← eval o X.env
      standAt apos.atName
      let (f, first) ← holding [ov] (getMethod ov m pl)
      callWith pos f first (backTo pos (starEach (e :: es) X.env)) (backToKw pos (keywordEach [] X.env))) := by rfl) :
    PE X (.Call (.Attribute o m apos) (e :: es) [] pos) (tE P X.K Wx (methE call c i mn co as)) := PE_imp (pe_ownM (E := WE Wx) ho hC hM F hr hb (passAt tk) hA hst hpl hT) fun σ H Q h =>
  meth_of inj hm (fun s rs s' z => by rw [hlen s rs s' z, hl]) (fun _ _ _ z => z) h
theorem s_ownM0 (inj : Inj P) (hm : P.fn mn = m) (hC : Cls X.K (P.ca c)) (hM : Meth X.K (P.ca c) m g) (F : FnOk X.prog X.w X.K X.mg X.base (L2.CX X.prog X.w) k g fd ps (spF P X.K call i ps.length)) (tk : Takes X Wx) (hr : Room k X.A) (hb : Binds X.K fd ps [])
    (hl : 1 = ps.length) {pl : Sem Bool} (ho : PE X o (tE P X.K Wx co))
    (hT : eval (.Call (.Attribute o m apos) [] [] pos) X.env = (do
      let ov ← eval o X.env
      standAt apos.atName
      let (f, first) ← holding [ov] (getMethod ov m pl)
      callWith pos f first (backTo pos (starEach [] X.env)) (backToKw pos (keywordEach [] X.env))) := by rfl) :
    PE X (.Call (.Attribute o m apos) [] [] pos) (tE P X.K Wx (methE call c i mn co asN)) := PE_imp (pe_ownM0 (E := WE Wx) ho hC hM F hr hb (passAt tk) hT) fun σ H Q h =>
  meth_of inj hm (fun s rs s' z => by cases z; exact hl) (fun σ H Q ⟨μ, s, I, z⟩ => z μ H (.refl I) [] .nil (by simp [newsOf])) h
/-! ### C(..) -/
def tMakeS (C : Addr) (sp : Sp) (E : L2.St → XK) (t : TA) : TE := fun σ H Q => t σ H fun vs H1 => ∀ y dx, H1 y = none → H1 dx = none → dx ≠ y → sp (.ref y :: vs) (upd (upd H1 dx (.own y)) y (.ins C dx [])) (fun v H2 => v = .non ∧ Q (.ref y) H2) (E σ)
theorem makeS_run {C : Addr} {sp : Sp} {E : L2.St → XK} {pins : List (Addr × Obj)} {σ : L2.St} {H : Hp} {s : Shared} {Q : VK} {us : List Value} {vs : List V} (M : Mk X.K C g) (F : FnOk X.prog X.w X.K X.mg X.base (L2.CX X.prog X.w) k g fd ps sp) (hr : Room (k + 1) X.A) (hb : Binds X.K fd ps [])
    (hx : PassesAt (L2.CX X.prog X.w) X σ (E σ)) (J : Inv X pins σ H s) (rs : Vals vs us)
    (h : ∀ y dx, H y = none → H dx = none → dx ≠ y → sp (.ref y :: vs) (upd (upd H dx (.own y)) y (.ins C dx [])) (fun v H2 => v = .non ∧ Q (.ref y) H2) (E σ)) :
    wpAny (model X.prog X.w) X.A (PySem.call (.ref C) us) (EP X pins σ Q) X.xe s := by
  have hq := h (s.heap.objs.size + 1) s.heap.objs.size (J.hok.fresh (Nat.le_succ _)) (J.hok.fresh (Nat.le_refl _)) (Nat.ne_of_lt (Nat.lt_succ_self _))
  have J2 := Inv.made (C := C) J
  have rs2 : Vals (V.ref (s.heap.objs.size + 1) :: vs) (Value.ref (s.heap.objs.size + 1) :: us) := .cons rfl rs
  have hl : (Value.ref (s.heap.objs.size + 1) :: us).length = ps.length := by rw [← rs2.length]; exact F.len _ _ _ _ hq
  have b := hb _ (Value.ref (s.heap.objs.size + 1) :: us) J2.kIn (by rw [List.append_nil]; exact hl)
  rw [List.append_nil] at b
  refine wpAny_call (make_map (f := g) J.kIn M.makes M.init (beq_iff_eq.mp M.fn) (codeAny_mono (F.run _ X.stack _ _ ⟨Value.ref (s.heap.objs.size + 1) :: us, []⟩ _ _ _ (E σ) (hr.make C us [])
    (J2.env0.make C us []) b rs2 hq) fun r s' z => ?_))
  cases r with
  | error err => exact hx pins _ _ err s' J2 z
  | ok fl =>
    cases fl with
    | ret u =>
      obtain ⟨v, H', J3, rv, ev, q3⟩ := J2.after z
      cases ev
      exact ⟨rv, V.ref (s.heap.objs.size + 1), H', J3, rfl, q3⟩
    | next => exact z.elim
    | brk => exact z.elim
    | cont => exact z.elim
/-- the instance joins the heap -/
theorem Sim.inst {K : PySem.W.Frag} {μ : List Addr} {h : List O} {H : Hp} {y dx : Addr} (I : Sim P K μ (S.nil h) [] H) (h1 : H y = none) (h2 : H dx = none) (ne : dx ≠ y) :
    Aft P K μ (S.nil h) [] H (μ ++ [y]) (S.nil (h ++ [.ins c []])) (upd (upd H dx (.own y)) y (.ins (P.ca c) dx [])) := by
  have A1 := I.alloc (p := dx) (o := .own y) h2
  have h3 : upd H dx (.own y) y = none := by rw [upd_ne (Ne.symm ne)]; exact h1
  have A2 := A1.sim.alloc (p := y) (o := .ins (P.ca c) dx []) h3
  have A := A1.trans A2
  have so : SimO P K μ (upd (upd H dx (.own y)) y (.ins (P.ca c) dx [])) (.ins c []) y := ⟨dx, [], upd_same, by rw [upd_ne ne, upd_same], .nil⟩
  have ny : y ∉ μ := fun z => (I.notup (.inl z)).2.2 h1
  have J := A.sim.toHeap so ny .nil (fun i b ⟨o, z⟩ _ => by simp at z)
  refine ⟨J, A.pre.trans (List.prefix_append _ _), ⟨A.step.keep, fun a z => ?_, A.step.live, A.step.frz⟩, fun i e z => by simp at z⟩
  rcases z with z | ⟨i, ⟨o, z⟩, _⟩
  · rcases List.mem_append.mp z with z | z
    · exact A.step.new a (.inl z)
    · cases List.mem_singleton.mp z
      exact .inr h1
  · simp at z
theorem make_of {N : Nat} (hN : ∀ s rs s', as s = .ok rs s' → rs.length + 1 = N) {t : TA} (ht : ∀ σ H Q, tA P X.K Wx as σ H Q → t σ H Q) {σ : L2.St} {H : Hp} {Q : VK} (h : tE P X.K Wx (newE call c i as) σ H Q) :
    tMakeS (P.ca c) (spF P X.K call i N) (WE Wx) t σ H Q := by
  obtain ⟨μ, s, I, h⟩ := h
  refine ht _ _ _ ⟨μ, s, I, ?_⟩
  have h := Pst.bind h
  cases qa : as s with
  | bad => rw [qa] at h; exact h.elim
  | exc c xs s2 => rw [qa] at h; exact h
  | ok rs s1 =>
    rw [qa] at h
    intro μ1 H1 A us rus fus y dx hy hd ne
    have h : Pst P X.K Wx μ s σ H (match boxes rs s1 with
      | some (ws, s2) => newR s2 (call i (.ref s2.h.length :: ws) (s2.h ++ [.ins c []]))
      | none => .bad) _ := h μ1 H1 A
    cases qb : boxes rs s1 with
    | none => rw [qb] at h; exact h.elim
    | some z =>
      obtain ⟨ws, s2⟩ := z
      rw [qb] at h
      obtain ⟨μ2, B, rw'⟩ := A.sim.boxesOk rus qb
      have AB := B.aft A fus
      have J := Sim.inst (c := c) (P := P) AB.sim.noSlots hy hd ne
      have h : Pst P X.K Wx μ s σ H (newR s2 (call i (.ref s2.h.length :: ws) (s2.h ++ [.ins c []]))) fun r s' μ' H' => ∀ v, RepR P X.K μ' s' σ H' r v → Frs H r v → Q v H' := h
      have ey : (μ2 ++ [y])[s2.h.length]? = some y := by rw [AB.sim.len]; simp
      refine ⟨by rw [List.length_cons, ← Paired.length rus.all, hN s rs s1 qa], μ2 ++ [y], s2.h ++ [.ins c []], .ref s2.h.length :: ws, J.sim, .cons (.ref ey) (rw'.mono (AB.sim.noSlots.tups J.step) J.pre), ?_⟩
      cases qc : call i (.ref s2.h.length :: ws) (s2.h ++ [.ins c []]) with
      | bad => rw [qc] at h; exact h.elim
      | exc c' xs h' =>
        rw [qc] at h
        intro μ' H' d C ex
        have AC := call_out AB.sim (J.trans C)
        refine h μ' H' d (AB.trans AC) ?_
        obtain ⟨fs, e1, e2, e3⟩ := ex
        refine ⟨fs, e1, e2, fun z => ?_⟩
        obtain ⟨o, so⟩ := AC.sim.at_foot z
        cases o with
        | lst _ => obtain ⟨_, e4, _⟩ := so; rw [e1] at e4; cases e4
        | dct b _ => cases b with
          | false => obtain ⟨_, e4, _⟩ := so; rw [e1] at e4; cases e4
          | true => obtain ⟨_, _, e4, _⟩ := so; rw [e1] at e4; cases e4
        | ins _ _ => obtain ⟨_, _, e4, _⟩ := so; rw [e1] at e4; cases e4
      | ok r h' =>
        rw [qc] at h
        have hr : r = .w (.d .non) := by
          cases r with
          | slot j => exact h.elim
          | new o => exact h.elim
          | w x =>
            cases x with
            | d x => cases x <;> first | rfl | exact h.elim
            | ref j => exact h.elim
            | tup _ => exact h.elim
            | scr _ => exact h.elim
        subst hr
        intro μ' H' v C rv fv
        have AC := call_out AB.sim (J.trans C)
        have ev : v = .non := by
          cases (show SimW X.K μ' H' (.d .non) v from rv) with
          | d z => cases z; rfl
        exact ⟨ev, h μ' H' (AB.trans AC) (.ref y) (SimW.ref (pre_get C.pre ey)) trivial⟩
end
end Mn

end
section
set_option Elab.async false
set_option linter.all false
set_option maxRecDepth 100000
set_option maxHeartbeats 4000000
/-! MnRule14: more built-ins: min, max, extend, index, split, t[::-1], the module's constants. -/
namespace Mn
open PySem PySem.Spec PyProof.Rows L2
section
variable {X : Cx} {P : Pr} {Wx : WX} {pos p p1 p2 p3 apos cpos : Pos} {a b e o : PySem.Expr} {ca cb co ce : Ex}
/-! ### two arguments -/
def Call2S (P : Pr) (K : PySem.W.Frag) (r : List V → Hp → VK → Prop) (f : S → R → R → Option R) : Prop := ∀ (μ : List Addr) (s : S) (σ : L2.St) (H : Hp) (x y : R) (v1 v2 : V) (rr : R) (Q : VK), Sim P K μ s σ H → RepR P K μ s σ H x v1 → RepR P K μ s σ H y v2 → f s x y = some rr →
  (∀ μ' H' v, Aft P K μ s σ H μ' s H' → RepR P K μ' s σ H' rr v → Frs H rr v → Q v H') → r [v1, v2] H Q
theorem s_callB2 {x : PySem.Str} {id : String} {r : List V → Hp → VK → Prop} {f : S → R → R → Option R} (hc : CallR X (.builtin id) r) (hr : Call2S P X.K r f) (hg : Gl X x) (hm : X.mg x = none) (hv : bootBuiltins x = some (.builtin id)) (ha : PE X a (tE P X.K Wx ca)) (hb : PE X b (tE P X.K Wx cb)) (hn : x ≠ "__name__" := by decide) (hdb : (x == ("__debug__" : PySem.Str)) = false := by decide)
    (he : starEach [a, b] X.env = (false, eval a X.env) :: starEach [b] X.env := by rfl) (he2 : starEach [b] X.env = (false, eval b X.env) :: starEach [] X.env := by rfl) (hpl : (backTo pos (starEach [b] X.env)).any (·.1) = false := by rfl) : PE X (.Call (.Name x p) [a, b] [] pos) (tE P X.K Wx (op2 f ca cb)) :=
  PE_imp (pe_callB hc hg hm hv (pa_cons ha (pa_cons hb pa_nil he2) he) hn hdb he hpl) fun σ H Q h => by
  obtain ⟨μ, s, I, h⟩ := h
  refine ⟨μ, s, I, (Pst.bind h).mono fun x s1 μ1 H1 A h v1 r1 f1 => ?_⟩
  refine ⟨μ1, s1, A.sim, ((Pst.bind h).from A).mono fun y s2 μ2 H2 B h v2 r2 f2 => ?_⟩
  cases q : f s2 x y with
  | none => rw [q] at h; exact h.elim
  | some r =>
    rw [q] at h
    exact hr μ2 s2 σ H2 x y v1 v2 r Q B.sim (r1.aft A.sim B) r2 q fun μ' H' v C r3 f3 => h μ' H' ((A.trans B).trans C) v r3 (f3.back (A.trans B).step.live)
theorem min2_S {K : PySem.W.Frag} : Call2S P K (fun xs H Q => ∃ i j, xs = [.int i, .int j] ∧ Q (.int (if j < i then j else i)) H) min2V := fun μ s σ H x y v1 v2 rr Q I r1 r2 e h => by
  unfold min2V at e
  split at e <;> cases e
  cases rep_int r1
  cases rep_int r2
  exact ⟨_, _, rfl, h μ H _ (.refl I) rep_iR trivial⟩
theorem max2_S {K : PySem.W.Frag} : Call2S P K (fun xs H Q => ∃ i j, xs = [.int i, .int j] ∧ Q (.int (if j > i then j else i)) H) max2V := fun μ s σ H x y v1 v2 rr Q I r1 r2 e h => by
  unfold max2V at e
  split at e <;> cases e
  cases rep_int r1
  cases rep_int r2
  exact ⟨_, _, rfl, h μ H _ (.refl I) rep_iR trivial⟩
theorem s_min2 (hc : X.calm = true) (hg : Gl X "min") (hm : X.mg "min" = none) (ha : PE X a (tE P X.K Wx ca)) (hb : PE X b (tE P X.K Wx cb)) (he : starEach [a, b] X.env = (false, eval a X.env) :: starEach [b] X.env := by rfl) (he2 : starEach [b] X.env = (false, eval b X.env) :: starEach [] X.env := by rfl) (hpl : (backTo pos (starEach [b] X.env)).any (·.1) = false := by rfl) :
    PE X (.Call (.Name "min" p) [a, b] [] pos) (tE P X.K Wx (op2 min2V ca cb)) := s_callB2 (call_min2 hc) min2_S hg hm (by decide +kernel) ha hb (by decide) (by decide) he he2 hpl
theorem s_max2 (hc : X.calm = true) (hg : Gl X "max") (hm : X.mg "max" = none) (ha : PE X a (tE P X.K Wx ca)) (hb : PE X b (tE P X.K Wx cb)) (he : starEach [a, b] X.env = (false, eval a X.env) :: starEach [b] X.env := by rfl) (he2 : starEach [b] X.env = (false, eval b X.env) :: starEach [] X.env := by rfl) (hpl : (backTo pos (starEach [b] X.env)).any (·.1) = false := by rfl) :
    PE X (.Call (.Name "max" p) [a, b] [] pos) (tE P X.K Wx (op2 max2V ca cb)) := s_callB2 (call_max2 hc) max2_S hg hm (by decide +kernel) ha hb (by decide) (by decide) he he2 hpl
/-! ### the module's constants -/
theorem s_glob {x : PySem.Str} {d : D} (hg : Gl X x) (h : ∃ u v, X.mg x = some u ∧ RelV v u ∧ ∀ H, RepD X.K H d v) (hd : (x == ("__debug__" : PySem.Str)) = false := by decide) : PE X (.Name x pos) (tE P X.K Wx (kE d)) := by
  obtain ⟨u, v, hm, r, rd⟩ := h
  exact PE_imp (pe_glob hg hm r hd) fun σ H Q h => tE_k (rd H) h
end
/-! ### xs.extend(ys), xs.index(y) -/
section
variable {P : Pr} {K : PySem.W.Frag}
theorem extend_M : MethS P K rExtend extendV := fun μ₀ s₀ H₀ μ s σ H o v rs vs x s' Q A rv rvs fvs nn e h => by
  unfold extendV at e
  split at e <;> first | (cases e; done) | skip
  rename_i r
  cases vs with
  | nil => cases rvs.all
  | cons y vs =>
    obtain ⟨r1, r2, _⟩ := rvs.uncons
    cases r2.all
    split at e <;> first | (cases e; done) | skip
    rename_i us q
    obtain ⟨b, rfl, ⟨zs, e1, rz⟩, _⟩ := A.sim.obj r1 q
    split at e <;> first | (cases e; done) | skip
    rename_i p q2
    split at e <;> first | (cases e; done) | skip
    rename_i ws q3
    split at e <;> cases e
    rename_i hl
    obtain ⟨a, rfl, ha, ⟨xs, e2, rx⟩⟩ := A.sim.locAt rv q2 q3
    refine ⟨a, b, xs, zs, rfl, rfl, e2, e1, by rw [← SimWs_len rx, ← SimWs_len rz, ← LN_eq]; exact hl, ?_⟩
    exact h μ _ _ (putList A q3 ha (rx.append rz)) (SimW.d .non) trivial
theorem repDs_app {H : Hp} : ∀ {xs ys : List D} {us vs : List V}, RepDs K H xs us → RepDs K H ys vs → RepDs K H (xs ++ ys) (us ++ vs)
  | _, _, _, _, .nil, h => h
  | _, _, _, _, .cons a r, h => .cons a (repDs_app r h)
theorem repDs_rev {H : Hp} : ∀ {xs : List D} {vs : List V}, RepDs K H xs vs → RepDs K H xs.reverse vs.reverse
  | _, _, .nil => .nil
  | _, _, .cons a r => by
    rw [List.reverse_cons, List.reverse_cons]
    exact repDs_app (repDs_rev r) (.cons a .nil)
theorem place_some {x : D} : ∀ {ys : List D} {i : Nat}, place x ys = some i → ∃ z, ys[i]? = some z ∧ D.eqv z x = true ∧ ∀ m z', m < i → ys[m]? = some z' → D.eqv z' x = false
  | [], i, e => by cases e
  | y :: ys, i, e => by
    unfold place at e
    by_cases q : D.eqv y x = true
    · rw [if_pos q] at e
      cases e
      exact ⟨y, rfl, q, fun m z' hm => absurd hm (Nat.not_lt_zero _)⟩
    · rw [if_neg q] at e
      obtain ⟨j, e1, rfl⟩ := Option.map_eq_some_iff.mp e
      obtain ⟨z, h1, h2, h3⟩ := place_some e1
      refine ⟨z, h1, h2, fun m z' hm hz => ?_⟩
      cases m with
      | zero => cases hz; exact Bool.not_eq_true _ ▸ q
      | succ m => exact h3 m z' (by omega) hz
theorem repDs_get {H : Hp} : ∀ {xs : List D} {vs : List V} {i : Nat} {x : D}, RepDs K H xs vs → xs[i]? = some x → ∃ v, vs[i]? = some v ∧ RepD K H x v
  | _, _, _, _, .nil, e => by simp at e
  | _, _, 0, _, .cons h _, e => by simp at e; subst e; exact ⟨_, rfl, h⟩
  | _, _, i + 1, _, .cons _ r, e => by
    obtain ⟨y, e1, h⟩ := repDs_get (i := i) r (by simpa using e)
    exact ⟨y, by simpa using e1, h⟩
theorem repDs_getR {H : Hp} : ∀ {xs : List D} {vs : List V} {i : Nat} {v : V}, RepDs K H xs vs → vs[i]? = some v → ∃ x, xs[i]? = some x ∧ RepD K H x v
  | _, _, _, _, .nil, e => by simp at e
  | _, _, 0, _, .cons h _, e => by simp at e; subst e; exact ⟨_, rfl, h⟩
  | _, _, i + 1, _, .cons _ r, e => by
    obtain ⟨y, e1, h⟩ := repDs_getR (i := i) r (by simpa using e)
    exact ⟨y, by simpa using e1, h⟩
theorem index_M : MethS P K (rIndex K) indexV := fun μ₀ s₀ H₀ μ s σ H o v rs vs x s' Q A rv rvs fvs nn e h => by
  unfold indexV at e
  split at e <;> first | (cases e; done) | skip
  rename_i d
  cases vs with
  | nil => cases rvs.all
  | cons y vs =>
    obtain ⟨r1, r2, _⟩ := rvs.uncons
    cases r2.all
    split at e <;> first | (cases e; done) | skip
    rename_i ws q
    obtain ⟨a, rfl, ⟨zs, e1, rz⟩, _⟩ := A.sim.obj rv q
    split at e <;> first | (cases e; done) | skip
    rename_i ys q2
    split at e <;> first | (cases e; done) | skip
    rename_i hf
    rw [Bool.and_eq_true] at hf
    obtain ⟨i, e3, e4⟩ := Option.map_eq_some_iff.mp e
    cases e4
    have rd : RepD K H d y := by
      cases (show SimW K μ H (.d d) y from r1) with
      | d z => exact z
    have rds := RepDs_of rz q2
    obtain ⟨z, h1, h2, h3⟩ := place_some e3
    obtain ⟨zv, g1, g2⟩ := repDs_get rds h1
    have fz : z.flat = true := List.all_eq_true.mp hf.2 z (List.mem_of_getElem? h1)
    refine ⟨a, zs, y, i, zv, rfl, rfl, .inl (.inl e1), flat_of rd hf.1, flats_of rds hf.2, g1, (eqV_of g2 rd fz hf.1).trans h2, fun m z' hm hz => ?_, h μ H _ A rep_iR trivial⟩
    obtain ⟨w, w1, w2⟩ := repDs_getR rds hz
    have fw : w.flat = true := List.all_eq_true.mp hf.2 w (List.mem_of_getElem? w1)
    exact (eqV_of w2 rd fw hf.1).trans (h3 m w hm w1)
end
section
variable {X : Cx} {P : Pr} {Wx : WX} {pos p p1 p2 p3 apos cpos : Pos} {a b e o : PySem.Expr} {es : List PySem.Expr} {ca cb co ce : Ex} {ct : As}
theorem s_extend (ho : PE X o (tE P X.K Wx co)) (ha : PA X (e :: es) (tA P X.K Wx ct))
    (hbase : attributeBase o "extend" X.env (eval o X.env) = eval o X.env := by rfl)
    (hfew : ((backTo cpos (starEach (e :: es) X.env)).all (fun x => !x.1) && (backToKw cpos (keywordEach [] X.env)).all (fun x => x.1.isSome)
      && decide ((e :: es).length + ([] : List Keyword).length + (if ([] : List Keyword).isEmpty then 0 else 1) < 30)) = true := by rfl)
    (hline : (apos.endLine == cpos.line) = true := by rfl) (hs : starEach (e :: es) X.env = (false, eval e X.env) :: starEach es X.env := by rfl) (hplain : (backTo cpos (starEach es X.env)).any (·.1) = false := by rfl) :
    PE X (.Call (.Attribute o "extend" apos) (e :: es) [] cpos) (tE P X.K Wx (meth extendV co ct)) := s_meth PySem.F.slot_list_extend PySem.F.type_list_extend mt_extend extend_M ho ha hbase hfew hline hs hplain
theorem s_index (ho : PE X o (tE P X.K Wx co)) (ha : PA X (e :: es) (tA P X.K Wx ct))
    (hbase : attributeBase o "index" X.env (eval o X.env) = eval o X.env := by rfl)
    (hfew : ((backTo cpos (starEach (e :: es) X.env)).all (fun x => !x.1) && (backToKw cpos (keywordEach [] X.env)).all (fun x => x.1.isSome)
      && decide ((e :: es).length + ([] : List Keyword).length + (if ([] : List Keyword).isEmpty then 0 else 1) < 30)) = true := by rfl)
    (hline : (apos.endLine == cpos.line) = true := by rfl) (hs : starEach (e :: es) X.env = (false, eval e X.env) :: starEach es X.env := by rfl) (hplain : (backTo cpos (starEach es X.env)).any (·.1) = false := by rfl) :
    PE X (.Call (.Attribute o "index" apos) (e :: es) [] cpos) (tE P X.K Wx (meth indexV co ct)) := s_meth PySem.F.slot_list_index PySem.F.type_list_index mt_index index_M ho ha hbase hfew hline hs hplain
/-! ### s.split(c) -/
theorem spl_one (c : Nat) : ∀ (l acc : List Nat), TL.spl [c] 0 acc l = match splt c l with
    | [] => []
    | p :: ps => (acc ++ p) :: ps
  | [], acc => by rw [TL.spl_nil]; simp [splt]
  | x :: l, acc => by
    have hne : ∀ l : List Nat, splt c l ≠ [] := fun l => by
      cases l with
      | nil => simp [splt]
      | cons y l =>
        unfold splt
        split
        · simp
        · split <;> simp
    by_cases q : x = c
    · subst q
      rw [TL.spl_hit (by simp [TL.pre])]
      show acc :: TL.spl [x] 0 [] l = _
      rw [spl_one x l []]
      conv => rhs; unfold splt
      rw [if_pos rfl]
      cases e : splt x l with
      | nil => exact absurd e (hne l)
      | cons p ps => simp
    · rw [TL.spl_miss (by simp [TL.pre, q]), spl_one c l]
      conv => rhs; unfold splt
      rw [if_neg q]
      cases e : splt c l with
      | nil => exact absurd e (hne l)
      | cons p ps => simp
theorem splt_split {a : List Nat} {c : Nat} (hc : c < 256) : Txt.split (sig a) (sig [c]) = (splt c a).map sig := by
  have hy : TL.tl (sig [c]) ≠ [] := by simp [TL.tl]
  have key := TL.split_spl (sig a) (sig [c]) hy (TL.kind_ok (by simp [hc]))
  have e1 : TL.tl (sig [c]) = [c] := by simp [TL.tl]
  have e2 : TL.tl (sig a) = a := by simp [TL.tl]
  rw [e1, e2, spl_one] at key
  have key2 : (Txt.split (sig a) (sig [c])).map TL.tl = splt c a := by
    rw [key]
    cases splt c a <;> simp
  rw [← key2, List.map_map]
  have : (sig ∘ TL.tl) = id := by
    funext x
    show sig (TL.tl x) = x
    exact TL.ext_tl (by simp [TL.tl])
  rw [this, List.map_id]
theorem splt_ok {a : List Nat} {c : Nat} (h : ∀ x ∈ a, x < 0x110000) : ∀ p ∈ splt c a, ∀ x ∈ p, x < 0x110000 := by
  induction a with
  | nil => intro p hp; simp [splt] at hp; subst hp; intro x hx; cases hx
  | cons y l ih =>
    have ih := ih fun x hx => h x (List.mem_cons_of_mem _ hx)
    have hy := h y List.mem_cons_self
    intro p hp
    unfold splt at hp
    split at hp
    · rcases List.mem_cons.mp hp with rfl | hp
      · intro x hx; cases hx
      · exact ih p hp
    · split at hp
      · rcases List.mem_singleton.mp hp with rfl
        intro x hx
        rcases List.mem_singleton.mp hx with rfl
        exact hy
      · rename_i q qs e
        rcases List.mem_cons.mp hp with rfl | hp
        · intro x hx
          rcases List.mem_cons.mp hx with rfl | hx
          · exact hy
          · exact ih q (by rw [e]; exact List.mem_cons_self) x hx
        · exact ih p (by rw [e]; exact List.mem_cons_of_mem _ hp)
theorem simWs_strs {K : PySem.W.Frag} {μ : List Addr} {H : Hp} : ∀ {ps : List (List Nat)}, (∀ p ∈ ps, ∀ x ∈ p, x < 0x110000) → SimWs K μ H (ps.map fun p => .d (.str p)) ((ps.map sig).map V.str)
  | [], _ => .nil
  | p :: ps, h => .cons (.d (.str p (h p List.mem_cons_self))) (simWs_strs fun q hq => h q (List.mem_cons_of_mem _ hq))
/-- a text's method with one argument -/
def Str1S (P : Pr) (K : PySem.W.Frag) (r : V → List V → Hp → VK → Prop) (f : S → R → R → Option R) : Prop := ∀ (μ : List Addr) (s : S) (σ : L2.St) (H : Hp) (x y : R) (v1 v2 : V) (rr : R) (Q : VK), Sim P K μ s σ H → RepR P K μ s σ H x v1 → RepR P K μ s σ H y v2 → f s x y = some rr →
  (∀ μ' H' v, Aft P K μ s σ H μ' s H' → RepR P K μ' s σ H' rr v → Frs H rr v → Q v H') → r v1 [v2] H Q
theorem str1_of {K : PySem.W.Frag} {r : V → List V → Hp → VK → Prop} {f : S → R → R → Option R} (hf : Str1S P K r f) {σ : L2.St} {H : Hp} {Q : VK} (h : tE P K Wx (smeth1 f co ce) σ H Q) : tM1 r (tE P K Wx co) (tE P K Wx ce) σ H Q := by
  obtain ⟨μ, s, I, h⟩ := h
  refine ⟨μ, s, I, (Pst.bind h).mono fun x s1 μ1 H1 A h v1 r1 f1 => ?_⟩
  by_cases hs : isStr x = true
  case neg => rw [if_neg hs] at h; exact h.elim
  rw [if_pos hs] at h
  refine ⟨?_, μ1, s1, A.sim, ((Pst.bind h).from A).mono fun y s2 μ2 H2 B h v2 r2 f2 => ?_⟩
  · unfold isStr at hs
    split at hs <;> first | (cases hs; done) | skip
    exact ⟨_, (rep_str r1).1⟩
  · cases q : f s2 x y with
    | none => rw [q] at h; exact h.elim
    | some r =>
      rw [q] at h
      exact hf μ2 s2 σ H2 x y v1 v2 r Q B.sim (r1.aft A.sim B) r2 q fun μ' H' v C r3 f3 => h μ' H' ((A.trans B).trans C) v r3 (f3.back (A.trans B).step.live)
theorem split_S {K : PySem.W.Frag} : Str1S P K (fun x xs H Q => ∃ a b, x = .str a ∧ xs = [.str b] ∧ (b.length == 0) = false ∧ a.length + 2 ≤ sizeLine ∧ rNewStrs (Txt.split a b) H Q) splitV := fun μ s σ H x y v1 v2 rr Q I r1 r2 e h => by
  unfold splitV at e
  split at e <;> first | (cases e; done) | skip
  rename_i a c
  split at e <;> cases e
  rename_i hc
  obtain ⟨rfl, ha⟩ := rep_str r1
  obtain ⟨rfl, _⟩ := rep_str r2
  refine ⟨sig a, sig [c], rfl, rfl, by simp [sig_len], by rw [sig_len, ← LN_eq]; exact hc.1, fun p hp => ?_⟩
  rw [splt_split hc.2]
  obtain ⟨A, rr⟩ := newLst I (simWs_strs (μ := μ) (H := H) (K := K) (splt_ok (c := c) ha)) hp
  exact h μ _ (.ref p) A rr hp
theorem s_split (ho : PE X o (tE P X.K Wx co)) (he : PE X e (tE P X.K Wx ce)) (hs : starEach [e] X.env = [(false, eval e X.env)] := by rfl) (hbase : attributeBase o "split" X.env (eval o X.env) = eval o X.env := by rfl) (hline : (apos.endLine == pos.line) = true := by rfl) :
    PE X (.Call (.Attribute o "split" apos) [e] [] pos) (tE P X.K Wx (smeth1 splitV co ce)) := PE_imp (pe_split ho he hs hbase hline) fun σ H Q h => str1_of split_S h
end
/-! ### t[::-1] -/
section
variable {prog : Program} {w : World} {A : Around} {E : Value → Shared → Prop} {s : Shared}
theorem rev_places (n : Nat) : Builtin.Slice.slicePlaces ((n : Int) - 1) (-1) (-1) = n := by
  unfold Builtin.Slice.slicePlaces
  rw [if_neg (by decide)]
  have e : (-(-1) : Int) = 1 := by decide
  rw [e, Int.ediv_one]
  split <;> omega
theorem rev_pick (xs : Array Value) : ((List.range xs.size).filterMap fun (k : Nat) => xs[(((xs.size : Int) - 1) + (k : Int) * (-1)).toNat]?).toArray = xs.toList.reverse.toArray := by
  have e : (fun (k : Nat) => xs[(((xs.size : Int) - 1) + (k : Int) * (-1)).toNat]?) = (fun i => xs[i]?) ∘ fun k => xs.size - 1 - k := by
    funext k
    have : (((xs.size : Int) - 1) + (k : Int) * (-1)).toNat = xs.size - 1 - k := by omega
    show xs[_]? = xs[_]?
    rw [this]
  rw [e, ← List.filterMap_map, PySem.W.krv_range, List.filterMap_reverse, PySem.W.krv_all]
theorem getItem_tuple_rev {t sl : Addr} {items : Array Value} {vk : Value} {Q : Value → Shared → Prop} (ht : IsTup s.heap t items) (hs : s.heap.IsSliceOf sl .none .none vk) (pk : IsPart vk (some (-1)))
    (h : Q (.ref s.heap.objs.size) { s with heap := s.heap.push { cls := .type "tuple", data := .seq items.toList.reverse.toArray } })
    (hsz : items.size ≤ sizeLine) : wpAny (model prog w) A (getItem (.ref t) (.ref sl)) Q E s := by
  have htake : sizeOk (.seq items.toList.reverse.toArray) := by
    show items.toList.reverse.toArray.size ≤ sizeLine
    rw [List.size_toArray, List.length_reverse, Array.length_toList]
    exact hsz
  obtain ⟨os, hos, hcs, hds⟩ := id hs
  have hTs : s.TypeIs (.ref sl) "slice" := ⟨os, hos, hcs⟩
  unfold getItem
  try with_reducible refine wpAny_holding ?_
  first | refine wpAny_bind (wpAny_pure ?_) | skip
  refine wpAny_bind (wpAny_sequenceKey ht.typeIs (by decide) ?_)
  refine wpAny_bind (wpAny_callSpecial?_slot (name := PySem.Str.ofString "__getitem__") ht.typeIs slot_tuple_getitem
    (wpAny_call_entry slot_tuple_getitem ht.typeIs entry_tuple_getitem ?_ (args_tuple_getitem _ _)))
  show wpAny _ _ (Builtin.Tuple.tupleItemsOf (.ref t) >>= _) _ _ s
  refine wpAny_bind (tupleItemsOf_ ht (wpAny_bind (wpAny_typeOf hTs ?_)))
  rw [if_pos (by decide)]
  have ap : ∀ {A : Around} {R : Int × Int × Nat → Shared → Prop}, R (((items.size : Int) - 1), -1, items.size) s → wpAny (model prog w) A (Builtin.Slice.sliceApplied (.ref sl) (pure (items.size : Int))) R E s := fun {A R} hR => by
    unfold Builtin.Slice.sliceApplied Builtin.Slice.sliceFields
    refine wpAny_bind (wpAny_bind (wpAny_field hos hds (x := .none) rfl (wpAny_bind (wpAny_field hos hds (x := .none) rfl (wpAny_bind (wpAny_field hos hds (x := vk) rfl (wpAny_pure ?_)))))))
    refine wpAny_bind (HT.slicePart_ pk ?_)
    show wpAny _ _ (if ((-1 : Int) == 0) = true then _ else _) _ _ s
    rw [if_neg (by decide)]
    refine wpAny_bind (HT.slicePart_ .none (wpAny_bind (HT.slicePart_ .none (wpAny_bind (wpAny_pure ?_)))))
    show wpAny _ _ (pure (((items.size : Int) - 1), (-1 : Int), Builtin.Slice.slicePlaces ((items.size : Int) - 1) (-1) (-1))) _ _ s
    rw [rev_places]
    exact wpAny_pure hR
  refine wpAny_bind (ap ?_)
  have hno : ¬ ((((items.size : Int) - 1) == 0 && (-1 : Int) == 1 && items.size == items.size) = true) := by
    intro q
    rw [Bool.and_eq_true, Bool.and_eq_true] at q
    exact absurd q.1.2 (by decide)
  show wpAny _ _ (if (((items.size : Int) - 1) == 0 && (-1 : Int) == 1 && items.size == items.size) = true then _ else _) _ _ s
  rw [if_neg hno, rev_pick]
  first
    | exact wpAny_bind (m := Builtin.Tuple.tupleExact _) (wpAny_newObj_type (wpAny_pure ⟨_, rfl, wpAny_pure h⟩) htake)
    | exact wpAny_bind (m := Builtin.Tuple.tupleExact _) (wpAny_newObj_type (wpAny_bind (wpAny_pure (wpAny_pure ⟨_, rfl, wpAny_pure h⟩))) htake)
    | exact wpAny_bind (wpAny_bind (m := Builtin.Tuple.tupleExact _) (wpAny_newObj_type (wpAny_pure (wpAny_pure ⟨_, rfl, wpAny_pure h⟩)) htake))
    | exact wpAny_bind (wpAny_bind (m := Builtin.Tuple.tupleExact _) (wpAny_newObj_type (wpAny_pure ⟨_, rfl, wpAny_pure h⟩) htake))
end
section
variable {X : Cx} {P : Pr} {Wx : WX} {pos p p1 p2 p3 apos cpos : Pos} {a b e o : PySem.Expr} {ca cb co ce : Ex}
def tRevT (K : PySem.W.Frag) (te : TE) : TE := fun σ H Q => te σ H fun x H1 => ∃ a xs, x = .ref a ∧ SqT K H1 a xs ∧ ∀ p, H1 p = none → Q (.ref p) (upd H1 p (.tup xs.reverse))
theorem pe_revT {te : TE} {k : Nat} (he : PE X e te) : PE X (.Subscript e (.Slice none none (some (.UnaryOp .USub (.Constant (.int 1) k p1) p2)) p3) pos) (tRevT X.K te) := by
  refine ⟨fun pins s σ H Q I h => ?_⟩
  refine Subscript_ (thn (he.run pins s σ H _ I h) fun v s1 ⟨x, H1, J1, r1, q1⟩ => ?_)
  obtain ⟨t, xs, ex, hx, q⟩ := q1
  cases ex
  cases r1
  have hst : PO X (some (.UnaryOp .USub (.Constant (.int 1) k p1) p2)) (tPart (tUn (rU fun i => .int (-i)) (tC (.int 1)))) := po_some (pe_un un_neg pe_int)
  refine wpAny_Slice (thn (po_none.run pins s1 σ H1 (fun o H2 => o = none ∧ H2 = H1) J1 ⟨rfl, rfl⟩) fun vl s2 ⟨l, H2, J2, pl, el, e2⟩ => ?_)
  cases el
  cases e2
  refine thn (po_none.run pins s2 σ H1 (fun o H3 => o = none ∧ H3 = H1) J2 ⟨rfl, rfl⟩) fun vu s3 ⟨u, H3, J3, pu, eu, e3⟩ => ?_
  cases eu
  cases e3
  refine thn (hst.run pins s3 σ H1 (fun o H4 => o = some (-1) ∧ H4 = H1) J3 ⟨1, rfl, -1, rfl, rfl, rfl⟩) fun vs s4 ⟨o, H4, J4, ps, eo, e4⟩ => ?_
  cases eo
  cases e4
  cases pl
  cases pu
  have J5 : Inv X pins σ H1 { s4 with heap := s4.heap.push { cls := .type "slice", data := .fields #[.none, .none, vs] } } := J4.kept (t' := s4.toks) fun b ob q => Heap.get?_push_of_some _ q
  obtain ⟨its, r, ht, hz⟩ := J5.tuple hx
  show wpAny (model X.prog X.w) X.A (subscriptTail e (.Slice none none (some (.UnaryOp .USub (.Constant (.int 1) k p1) p2)) p3) (.ref t) (.ref s4.heap.objs.size)) (EP X pins σ Q) X.xe { s4 with heap := s4.heap.push { cls := .type "slice", data := .fields #[.none, .none, vs] } }
  refine tail_any (ops := [.ref t, .ref s4.heap.objs.size]) ht.typeIs slot_tuple_getitem.lookup ?_ (by with_unfolding_all rfl)
  refine getItem_tuple_rev ht (Heap.IsSliceOf.new _ .none .none vs) ps ?_ (by have := r.length; rw [List.size_toArray]; omega)
  refine ⟨.ref _, _, J5.laid (t' := s4.toks) (o := .tup xs.reverse) (fun b ob q => Heap.get?_push_of_some _ q) (Nat.le_refl _) ?_, rfl, q _ (J5.hok.fresh (Nat.le_refl _))⟩
  exact ⟨by rw [List.length_reverse]; exact hz, _, r.reverse, IsTup.new _ _⟩
theorem revT_S {K : PySem.W.Frag} {σ : L2.St} {H : Hp} {Q : VK} (h : tE P K Wx (op1 revT ce) σ H Q) : tRevT K (tE P K Wx ce) σ H Q := by
  obtain ⟨μ, s, I, h⟩ := h
  refine ⟨μ, s, I, (Pst.bind h).mono fun r s1 μ1 H1 A h v rv fv => ?_⟩
  cases q : revT s1 r with
  | none => rw [q] at h; exact h.elim
  | some x =>
    rw [q] at h
    unfold revT at q
    split at q <;> cases q
    rename_i xs
    cases (show SimW K μ1 H1 (.d (.tup xs)) v from rv) with
    | d z =>
      cases z with
      | tup hs rs =>
        refine ⟨_, _, rfl, hs, fun p hp => ?_⟩
        have rr : SimWs K μ1 H1 (xs.reverse.map W.d) _ := SimWs_of (repDs_rev rs)
        obtain ⟨B, rb⟩ := newTup A.sim rr hp
        rw [mkTup_map] at rb
        exact h μ1 _ (A.trans B) (.ref p) rb trivial
theorem s_revT {k : Nat} (he : PE X e (tE P X.K Wx ce)) : PE X (.Subscript e (.Slice none none (some (.UnaryOp .USub (.Constant (.int 1) k p1) p2)) p3) pos) (tE P X.K Wx (op1 revT ce)) := PE_imp (pe_revT he) fun _ _ _ h => revT_S h
end
end Mn

end
section
set_option Elab.async false
set_option linter.all false
set_option maxRecDepth 100000
set_option maxHeartbeats 2000000
/-! MnHook: the head's facts, with the module's constants of any depth. -/
namespace Mn
open PySem PySem.Spec PyProof.Rows L2
def okS (s : List Nat) : Bool := s.all fun c => decide (c < 0x110000)
mutual
/-- a value of the written part is this data -/
def repB (K : PySem.W.Frag) : D → Value → Bool
  | .non, .none => true
  | .bl a, .bool b => a == b
  | .int i, .int j _ => i == j
  | .str s, .str z _ => decide (z = sig s) && okS s
  | .tup ds, .ref a => (match K.lookup a with
    | some ⟨.type c, _, .seq its _, _⟩ => decide (c = "tuple") && (decide (its.size ≤ sizeLine) && repBs K ds its.toList)
    | _ => false)
  | _, _ => false
def repBs (K : PySem.W.Frag) : List D → List Value → Bool
  | [], [] => true
  | d :: ds, u :: us => repB K d u && repBs K ds us
  | _, _ => false
end
mutual
theorem repB_ok {K : PySem.W.Frag} : ∀ {d : D} {u : Value}, repB K d u = true → ∃ v, RelV v u ∧ ∀ H, RepD K H d v
  | .non, u, h => by
    cases u <;> first | (unfold repB at h; cases h; done) | skip
    exact ⟨.non, rfl, fun _ => .non⟩
  | .bl a, u, h => by
    cases u <;> first | (unfold repB at h; cases h; done) | skip
    unfold repB at h
    rw [eq_of_beq h]
    exact ⟨.bl _, rfl, fun _ => .bl _⟩
  | .int i, u, h => by
    cases u <;> first | (unfold repB at h; cases h; done) | skip
    unfold repB at h
    rw [eq_of_beq h]
    exact ⟨.int _, ⟨_, rfl⟩, fun _ => .int _⟩
  | .str s, u, h => by
    cases u <;> first | (unfold repB at h; cases h; done) | skip
    unfold repB at h
    rw [Bool.and_eq_true] at h
    rw [of_decide_eq_true h.1]
    exact ⟨.str (sig s), ⟨_, rfl⟩, fun _ => .str s fun c hc => of_decide_eq_true (List.all_eq_true.mp h.2 c hc)⟩
  | .tup ds, u, h => by
    cases u <;> first | (unfold repB at h; cases h; done) | skip
    rename_i a
    unfold repB at h
    cases q : K.lookup a with
    | none => rw [q] at h; cases h
    | some o =>
      obtain ⟨oc, od, dt, osl⟩ := o
      rw [q] at h
      cases oc with
      | type c =>
        cases dt with
        | seq its n =>
          have h : (decide (c = "tuple") && (decide (its.size ≤ sizeLine) && repBs K ds its.toList)) = true := h
          rw [Bool.and_eq_true, Bool.and_eq_true] at h
          obtain ⟨vs, r1, r2⟩ := repBs_ok h.2.2
          exact ⟨.ref a, rfl, fun H => .tup (.inr ⟨_, its, n, q, congrArg Value.type (of_decide_eq_true h.1), rfl, of_decide_eq_true h.2.1, r1⟩) (r2 H)⟩
        | _ => cases h
      | _ => cases dt <;> cases h
theorem repBs_ok {K : PySem.W.Frag} : ∀ {ds : List D} {us : List Value}, repBs K ds us = true → ∃ vs, Vals vs us ∧ ∀ H, RepDs K H ds vs
  | [], [], _ => ⟨[], .nil, fun _ => .nil⟩
  | [], _ :: _, h => by unfold repBs at h; cases h
  | _ :: _, [], h => by unfold repBs at h; cases h
  | d :: ds, u :: us, h => by
    unfold repBs at h
    rw [Bool.and_eq_true] at h
    obtain ⟨v, a1, a2⟩ := repB_ok h.1
    obtain ⟨vs, b1, b2⟩ := repBs_ok h.2
    exact ⟨v :: vs, .cons a1 b1, fun H => .cons (a2 H) (b2 H)⟩
end
/-- the module's name x holds this data -/
def gB (K : PySem.W.Frag) (x : PySem.Str) (d : D) : Bool := match PySem.W.nsIn K mainGlobals x with
  | some (some u) => repB K d u
  | _ => false
theorem gB_ok {K : PySem.W.Frag} {h : Heap} {mg : PySem.Str → Option Value} (X : K.In h) (G : h.Ns mainGlobals mg) {x : PySem.Str} {d : D} (c : gB K x d = true) : ∃ u v, mg x = some u ∧ RelV v u ∧ ∀ H, RepD K H d v := by
  unfold gB at c
  cases e : PySem.W.nsIn K mainGlobals x with
  | none => rw [e] at c; cases c
  | some r =>
    rw [e] at c
    cases r with
    | none => cases c
    | some u =>
      obtain ⟨v, r1, r2⟩ := repB_ok (show repB K d u = true from c)
      exact ⟨u, v, PySem.W.mg_of X G e, r1, r2⟩
/-! ### the Hook -/
abbrev AlM : Type := He.AlD × Bool
def obsM (n : Nat) (fa : List He.Fa) (fn : List He.DefD) (ex : PySem.W.Frag → Bool) (g : Addr → Option Obj) : AlM := (He.obsD fa fn (He.frG g (He.asD g n)), ex (He.frG g (He.asD g n)))
def hookM (n : Nat) (fa : List He.Fa) (fn : List He.DefD) (ex : PySem.W.Frag → Bool) : PySem.W.Hook where
  α := AlM
  obs := fun s => obsM n fa fn ex s.heap.get?
  val := fun _ => (He.valD fn, true)
  says := fun _ h => ∃ K : PySem.W.Frag, K.In h ∧ He.SaysD fa fn K ∧ ex K = true
  of := fun _ _ e => ⟨_, He.frG_in, congrArg (fun z : AlM => z.1) e, congrArg (fun z : AlM => z.2) e⟩
  keeps := fun _ _ _ ⟨K, hK, c⟩ k => ⟨K, PySem.W.Frag.In.keeps hK k, c⟩
theorem obsM_eq {n : Nat} {fa : List He.Fa} {fn : List He.DefD} {ex : PySem.W.Frag → Bool} {g : Addr → Option Obj} {s : Shared} (h : ∀ a, g a = s.heap.get? a) : obsM n fa fn ex g = (hookM n fa fn ex).obs s := by
  have e : g = s.heap.get? := funext h
  rw [e] <;> rfl
/-! ### the fields' names -/
def fnOf (tbl : List PySem.Str) (m : Nat) : PySem.Str := match tbl[m]? with
  | some x => x
  | none => ⟨#[0x110000 + m]⟩
theorem fnOf_inj {tbl : List PySem.Str} (nd : tbl.Nodup) (ok : (tbl.all fun x => decide (∀ c, x.cps[0]? = some c → c < 0x110000)) = true) (m n : Nat) (h : fnOf tbl m = fnOf tbl n) : m = n := by
  unfold fnOf at h
  have small : ∀ (i k : Nat) (x : PySem.Str), tbl[i]? = some x → x ≠ ⟨#[0x110000 + k]⟩ := fun i k x e z => by
    have := of_decide_eq_true (List.all_eq_true.mp ok x (List.mem_of_getElem? e)) (0x110000 + k) (by rw [z]; rfl)
    omega
  cases e1 : tbl[m]? with
  | none =>
    rw [e1] at h
    cases e2 : tbl[n]? with
    | none =>
      rw [e2] at h
      injection h with h
      have := congrArg Array.toList h
      simp at this
      exact this
    | some y => rw [e2] at h; exact absurd h.symm (small n m y e2)
  | some x =>
    rw [e1] at h
    cases e2 : tbl[n]? with
    | none => rw [e2] at h; exact absurd h (small m n x e1)
    | some y =>
      rw [e2] at h
      have h : x = y := h
      subst h
      obtain ⟨h1, g1⟩ := List.getElem?_eq_some_iff.mp e1
      obtain ⟨h2, g2⟩ := List.getElem?_eq_some_iff.mp e2
      exact (List.getElem_inj nd).mp (g1.trans g2.symm)
end Mn

end
section
set_option Elab.async false
set_option linter.all false
set_option maxRecDepth 100000
set_option maxHeartbeats 4000000
/-! MnRule15: new instances as a rule, a def at any level. -/
namespace Mn
open PySem PySem.Spec PyProof.Rows L2
section
variable {X : Cx} {P : Pr} {Wx : WX} {pos p : Pos} {e : PySem.Expr} {es : List PySem.Expr} {as : As} {call : Call} {i k c : Nat} {g : Addr} {fd : FuncData} {ps : List PySem.Str} {x : PySem.Str}
theorem s_new (M : Mk X.K (P.ca c) g) (F : FnOk X.prog X.w X.K X.mg X.base (L2.CX X.prog X.w) k g fd ps (spF P X.K call i ps.length)) (tk : Takes X Wx) (hr : Room (k + 1) X.A) (hg : Gl X x) (hm : X.mg x = some (.ref (P.ca c))) (hb : Binds X.K fd ps [])
    (hl : (e :: es).length + 1 = ps.length) (hlen : ∀ s rs s', as s = .ok rs s' → rs.length = (e :: es).length) (hA : PA X (e :: es) (tA P X.K Wx as)) (hdb : (x == ("__debug__" : PySem.Str)) = false := by decide)
    (he : starEach (e :: es) X.env = (false, eval e X.env) :: starEach es X.env := by rfl) (hpl : (backTo pos (starEach es X.env)).any (·.1) = false := by rfl) :
    PE X (.Call (.Name x p) (e :: es) [] pos) (tE P X.K Wx (newE call c i as)) := by
  have base : PE X (.Call (.Name x p) (e :: es) [] pos) (tMakeS (P.ca c) (spF P X.K call i ps.length) (WE Wx) (tA P X.K Wx as)) := ⟨fun pins s σ H Q J h =>
    wpAny_Call_Name_kw (ld_glob J hg hm (PySem.W.callWith_K (h₀ := X.base) J.ok.mod.kin M.kp (thn (hA.run pos pins s σ H _ J h) fun us s1 ⟨vs, H1, J1, r, q⟩ => ⟨J1.kIn, makeS_run M F hr hb (passAt tk σ) J1 r q⟩) he hpl) hdb)⟩
  exact PE_imp base fun σ H Q h => make_of (fun s rs s' z => by rw [hlen s rs s' z, hl]) (fun _ _ _ z => z) h
theorem s_new0 (M : Mk X.K (P.ca c) g) (F : FnOk X.prog X.w X.K X.mg X.base (L2.CX X.prog X.w) k g fd ps (spF P X.K call i ps.length)) (tk : Takes X Wx) (hr : Room (k + 1) X.A) (hg : Gl X x) (hm : X.mg x = some (.ref (P.ca c))) (hb : Binds X.K fd ps [])
    (hl : 1 = ps.length) (hdb : (x == ("__debug__" : PySem.Str)) = false := by decide) :
    PE X (.Call (.Name x p) [] [] pos) (tE P X.K Wx (newE call c i asN)) := by
  have base : PE X (.Call (.Name x p) [] [] pos) (tMakeS (P.ca c) (spF P X.K call i ps.length) (WE Wx) tNil) := ⟨fun pins s σ H Q J h =>
    wpAny_Call_Name_kw (ld_glob J hg hm (PySem.W.callWith_K0 J.kIn M.kp (makeS_run (us := []) M F hr hb (passAt tk σ) J .nil h)) hdb)⟩
  exact PE_imp base fun σ H Q h => make_of (fun s rs s' z => by cases z; exact hl) (fun σ H Q ⟨μ, s, I, z⟩ => z μ H (.refl I) [] .nil (by simp [newsOf])) h
end
/-- a def, its level its own -/
theorem def_ok2 {P : Pr} {Pg : Program} {w : World} {K : PySem.W.Frag} {mg : PySem.Str → Option Value} {base : Heap} {x qual : PySem.Str} {params : Arguments} {body : List Stmt} {scope : Scope} {dvs : List V} {kws : List (PySem.Str × V)} {f : Addr} {fd : FuncData} {N ps : List PySem.Str} {k l i : Nat} {fns : List Fn} {F : Fn}
    (D : FunD K x qual params body scope dvs kws f fd) (Sc : FnScope N ps scope) (hF : fns[i]? = some F) (h1 : F.ps = ps.length) (h2 : F.n = N.length) (hle : ps.length ≤ N.length)
    (hb : ∀ (cdv : Value) (A : Around) (outer : List Env) (s : Shared) (H : Hp) (E : XK), Room l (A.deeper (envOfC qual scope s.heap.objs.size f cdv)) →
      PSs (cxOf (L2.CX Pg w) Pg w K mg base N qual scope f cdv A outer s H E) body (tS P K (fun cls d _ H => E cls d H) (F.body (callF fns k)))) :
    FnOk Pg w K mg base (L2.CX Pg w) (l + 1) f fd ps (spF P K (callF fns (k + 1)) i ps.length) := by
  refine D.ok Sc (fun vs H Q E h => h.1) fun cdv A outer s H vs Q E hr hsp => ⟨_, hb cdv A outer s H E hr, ?_⟩
  obtain ⟨hl, μ, h, ws, I, rs, hsp⟩ := hsp
  have hlw := SimWs_len rs
  have e : callF fns (k + 1) i ws h = outF (F.body (callF fns k) ⟨ws.map E0.w ++ List.replicate (F.n - F.ps) E0.un, h⟩) := by
    show (match fns[i]? with
      | some F => if ws.length = F.ps then outF (F.body (callF fns k) ⟨ws.map E0.w ++ List.replicate (F.n - F.ps) E0.un, h⟩) else .bad
      | none => .bad) = _
    rw [hF]
    simp only
    rw [if_pos (by rw [hlw, hl, h1])]
  rw [e] at hsp
  obtain ⟨I2, no⟩ := I.entry (N := N) (n := F.n - F.ps) rs (by rw [h1, h2, hl])
  refine ⟨μ, _, I2, ?_⟩
  generalize F.body (callF fns k) ⟨ws.map E0.w ++ List.replicate (F.n - F.ps) E0.un, h⟩ = out at hsp ⊢
  cases out with
  | bad => exact hsp
  | bk s' => exact hsp.elim
  | ct s' => exact hsp.elim
  | nx s' => exact fun μ' σ' H' B => hsp μ' H' .non (callee_out no B) (SimW.d .non) trivial
  | exc c xs s' => exact fun μ' σ' H' d B ex => hsp μ' H' d (callee_out no B) (by
      obtain ⟨fs, e1, e2, e3⟩ := ex
      exact ⟨fs, e1, e2, fun z => e3 (by
        rcases z with z | ⟨i, ⟨o, z⟩, _⟩
        · exact .inl z
        · simp at z)⟩)
  | rt r s' =>
    intro μ' σ' H' v B rv fv
    have C := callee_out no B
    have nf : ∀ a, ¬ foot μ' s' σ' a → ¬ foot μ' (S.nil s'.h) [] a := fun a n z => by
      rcases z with z | ⟨i, ⟨o, z⟩, _⟩
      · exact n (.inl z)
      · simp at z
    cases r with
    | w y => exact hsp μ' H' v C rv trivial
    | new o =>
      obtain ⟨a, rfl, q1, q2⟩ := rv
      exact hsp μ' H' _ C ⟨a, rfl, q1, nf a q2⟩ fv
    | slot j =>
      obtain ⟨g1, e0, g2, g3⟩ := rv
      have hsp : PstF P K μ h H (match s'.ρ[j]? with
        | some (.own o) => .ok (.new o) s'.h
        | some (.w x) => .ok (.w x) s'.h
        | _ => .bad) Q E := hsp
      rw [g2] at hsp
      have q := paired_two B.sim.env g2 g1
      cases e0 with
      | un => cases g3
      | w y => exact hsp μ' H' v C q trivial
      | own o =>
        cases v <;> first | exact q.elim | skip
        rename_i a
        have ow : Owns s' σ' j a := ⟨⟨o, g2⟩, g1⟩
        refine hsp μ' H' _ C ⟨a, rfl, q, fun z => ?_⟩ ?_
        · rcases z with z | ⟨i, ⟨o, z⟩, _⟩
          · exact B.sim.apart j a ow z
          · simp at z
        · rcases B.step.new a (.inr ⟨j, ow⟩) with z | z
          · rcases z with z | ⟨i, z⟩
            · exact absurd (B.pre.subset z) (B.sim.apart j a ow)
            · exact absurd z (no i a)
          · exact z
/-- what a class's method is found in -/
def clsBody : Stmt → List Stmt
  | .ClassDef (body := b) .. => b
  | _ => []
end Mn

end
set_option maxHeartbeats 0
namespace HeadT
open PySem PySem.Spec PyProof.Rows L2 Mn
def top (i : Nat) : Stmt := PySem.Challenge.pw_pilesfit_k71_whole_deed_rows.main.body.getD i (.Pass ⟨0, 0, 0, 0⟩)
def topC (i k : Nat) : Stmt := (Mn.clsBody (top i)).getD k (.Pass ⟨0, 0, 0, 0⟩)
def ftbl : List PySem.Str := ["deed_names", "deeds", "here", "is_name", "is_token", "kinds", "last", "many", "name", "names", "number", "place", "refuse", "sign", "take", "tokens", "word"]
def clsNm : Nat → PySem.Str
  | 0 => "Reader"
  | 1 => "Draft"
  | _ => ""
def P1 (K : PySem.W.Frag) : Pr := ⟨fun c => He.ga K (clsNm c), fnOf ftbl⟩
theorem P1inj (K : PySem.W.Frag) : Inj (P1 K) := fun m n h => fnOf_inj (by decide +kernel) (by decide +kernel) m n h
def psOf : Nat → List PySem.Str
  | 0 => ["pile", "front"]
  | 1 => ["one", "other"]
  | 2 => ["effects"]
  | 3 => ["effect", "pile"]
  | 4 => ["one", "other"]
  | 5 => ["one", "other"]
  | 6 => ["program", "row"]
  | 7 => ["program", "row", "effect"]
  | 8 => ["program", "rows"]
  | 9 => ["program", "effect", "most"]
  | 10 => ["text"]
  | 11 => ["text"]
  | 12 => ["line", "place", "signs"]
  | 13 => ["number", "line", "place"]
  | 14 => ["number", "line"]
  | 15 => ["text"]
  | 16 => ["self", "text"]
  | 17 => ["self", "word"]
  | 18 => ["self"]
  | 19 => ["self", "kind", "word"]
  | 20 => ["self"]
  | 21 => ["self"]
  | 22 => ["self"]
  | 23 => ["self"]
  | 24 => ["self"]
  | 25 => ["self", "word"]
  | 26 => ["self", "sign"]
  | 27 => ["reader"]
  | 28 => ["reader"]
  | 29 => ["reader"]
  | 30 => ["reader"]
  | 31 => ["reader"]
  | 32 => ["reader"]
  | 33 => ["text"]
  | 34 => ["where", "word"]
  | 35 => ["self"]
  | 36 => ["self"]
  | 37 => ["found", "others", "name", "most"]
  | 38 => ["draft", "names"]
  | 39 => ["draft", "told"]
  | 40 => ["draft", "name"]
  | 41 => ["statement"]
  | 42 => ["draft", "statement", "deep"]
  | 43 => ["draft", "block", "deep"]
  | 44 => ["tree"]
  | 45 => ["text"]
  | 46 => ["script"]
  | 47 => ["box", "place", "many"]
  | 48 => ["box", "many", "kinds"]
  | 49 => ["box", "deeds", "kinds"]
  | 50 => ["one", "other"]
  | 51 => ["deeds", "row"]
  | 52 => ["told", "effect"]
  | 53 => ["deeds", "effect", "most"]
  | 54 => ["told", "due"]
  | 55 => ["told", "due"]
  | 56 => ["box", "deeds", "most"]
  | 57 => ["box", "deeds", "row", "kinds"]
  | 58 => ["box", "program", "kinds", "most", "long"]
  | 59 => []
  | 60 => ["script"]
  | _ => []
structure Tb (K : PySem.W.Frag) (mg : PySem.Str → Option Value) (f : Nat → Addr) (fd : Nat → FuncData) : Prop where
  D0 : FunD K "begins" "begins" (defArgs (top 2)) (defBody (top 2)) (defScope (top 2)) [] [] (f 0) (fd 0)
  g0 : mg "begins" = some (.ref (f 0))
  D1 : FunD K "joined" "joined" (defArgs (top 3)) (defBody (top 3)) (defScope (top 3)) [] [] (f 1) (fd 1)
  g1 : mg "joined" = some (.ref (f 1))
  D2 : FunD K "all_joined" "all_joined" (defArgs (top 4)) (defBody (top 4)) (defScope (top 4)) [] [] (f 2) (fd 2)
  g2 : mg "all_joined" = some (.ref (f 2))
  D3 : FunD K "extended" "extended" (defArgs (top 5)) (defBody (top 5)) (defScope (top 5)) [] [] (f 3) (fd 3)
  g3 : mg "extended" = some (.ref (f 3))
  D4 : FunD K "is_extended" "is_extended" (defArgs (top 11)) (defBody (top 11)) (defScope (top 11)) [] [] (f 4) (fd 4)
  g4 : mg "is_extended" = some (.ref (f 4))
  D5 : FunD K "are_alike" "are_alike" (defArgs (top 12)) (defBody (top 12)) (defScope (top 12)) [] [] (f 5) (fd 5)
  g5 : mg "are_alike" = some (.ref (f 5))
  D6 : FunD K "row_effect" "row_effect" (defArgs (top 14)) (defBody (top 14)) (defScope (top 14)) [] [] (f 6) (fd 6)
  g6 : mg "row_effect" = some (.ref (f 6))
  D7 : FunD K "is_row_for" "is_row_for" (defArgs (top 15)) (defBody (top 15)) (defScope (top 15)) [] [] (f 7) (fd 7)
  g7 : mg "is_row_for" = some (.ref (f 7))
  D8 : FunD K "longer_rows" "longer_rows" (defArgs (top 16)) (defBody (top 16)) (defScope (top 16)) [] [] (f 8) (fd 8)
  g8 : mg "longer_rows" = some (.ref (f 8))
  D9 : FunD K "shortest_row" "shortest_row" (defArgs (top 17)) (defBody (top 17)) (defScope (top 17)) [] [] (f 9) (fd 9)
  g9 : mg "shortest_row" = some (.ref (f 9))
  D10 : FunD K "text_lines" "text_lines" (defArgs (top 31)) (defBody (top 31)) (defScope (top 31)) [] [] (f 10) (fd 10)
  g10 : mg "text_lines" = some (.ref (f 10))
  D11 : FunD K "behind_lines" "behind_lines" (defArgs (top 32)) (defBody (top 32)) (defScope (top 32)) [] [] (f 11) (fd 11)
  g11 : mg "behind_lines" = some (.ref (f 11))
  D12 : FunD K "end_of" "end_of" (defArgs (top 35)) (defBody (top 35)) (defScope (top 35)) [] [] (f 12) (fd 12)
  g12 : mg "end_of" = some (.ref (f 12))
  D13 : FunD K "token_at" "token_at" (defArgs (top 36)) (defBody (top 36)) (defScope (top 36)) [] [] (f 13) (fd 13)
  g13 : mg "token_at" = some (.ref (f 13))
  D14 : FunD K "line_tokens" "line_tokens" (defArgs (top 37)) (defBody (top 37)) (defScope (top 37)) [] [] (f 14) (fd 14)
  g14 : mg "line_tokens" = some (.ref (f 14))
  D15 : FunD K "tokens_of" "tokens_of" (defArgs (top 38)) (defBody (top 38)) (defScope (top 38)) [] [] (f 15) (fd 15)
  g15 : mg "tokens_of" = some (.ref (f 15))
  D16 : FunD K "__init__" "Reader.__init__" (defArgs (topC 40 0)) (defBody (topC 40 0)) (defScope (topC 40 0)) [] [] (f 16) (fd 16)
  D17 : FunD K "refuse" "Reader.refuse" (defArgs (topC 40 1)) (defBody (topC 40 1)) (defScope (topC 40 1)) [] [] (f 17) (fd 17)
  D18 : FunD K "here" "Reader.here" (defArgs (topC 40 2)) (defBody (topC 40 2)) (defScope (topC 40 2)) [] [] (f 18) (fd 18)
  D19 : FunD K "is_token" "Reader.is_token" (defArgs (topC 40 3)) (defBody (topC 40 3)) (defScope (topC 40 3)) [] [] (f 19) (fd 19)
  D20 : FunD K "is_name" "Reader.is_name" (defArgs (topC 40 4)) (defBody (topC 40 4)) (defScope (topC 40 4)) [] [] (f 20) (fd 20)
  D21 : FunD K "take" "Reader.take" (defArgs (topC 40 5)) (defBody (topC 40 5)) (defScope (topC 40 5)) [] [] (f 21) (fd 21)
  D22 : FunD K "name" "Reader.name" (defArgs (topC 40 6)) (defBody (topC 40 6)) (defScope (topC 40 6)) [] [] (f 22) (fd 22)
  D23 : FunD K "names" "Reader.names" (defArgs (topC 40 7)) (defBody (topC 40 7)) (defScope (topC 40 7)) [] [] (f 23) (fd 23)
  D24 : FunD K "number" "Reader.number" (defArgs (topC 40 8)) (defBody (topC 40 8)) (defScope (topC 40 8)) [] [] (f 24) (fd 24)
  D25 : FunD K "word" "Reader.word" (defArgs (topC 40 9)) (defBody (topC 40 9)) (defScope (topC 40 9)) [] [] (f 25) (fd 25)
  D26 : FunD K "sign" "Reader.sign" (defArgs (topC 40 10)) (defBody (topC 40 10)) (defScope (topC 40 10)) [] [] (f 26) (fd 26)
  D27 : FunD K "read_kinds" "read_kinds" (defArgs (top 41)) (defBody (top 41)) (defScope (top 41)) [] [] (f 27) (fd 27)
  g27 : mg "read_kinds" = some (.ref (f 27))
  D28 : FunD K "read_deed" "read_deed" (defArgs (top 42)) (defBody (top 42)) (defScope (top 42)) [] [] (f 28) (fd 28)
  g28 : mg "read_deed" = some (.ref (f 28))
  D29 : FunD K "read_either" "read_either" (defArgs (top 43)) (defBody (top 43)) (defScope (top 43)) [] [] (f 29) (fd 29)
  g29 : mg "read_either" = some (.ref (f 29))
  D30 : FunD K "read_statement" "read_statement" (defArgs (top 44)) (defBody (top 44)) (defScope (top 44)) [] [] (f 30) (fd 30)
  g30 : mg "read_statement" = some (.ref (f 30))
  D31 : FunD K "read_block" "read_block" (defArgs (top 45)) (defBody (top 45)) (defScope (top 45)) [] [] (f 31) (fd 31)
  g31 : mg "read_block" = some (.ref (f 31))
  D32 : FunD K "read_words" "read_words" (defArgs (top 46)) (defBody (top 46)) (defScope (top 46)) [] [] (f 32) (fd 32)
  g32 : mg "read_words" = some (.ref (f 32))
  D33 : FunD K "tree_of" "tree_of" (defArgs (top 47)) (defBody (top 47)) (defScope (top 47)) [] [] (f 33) (fd 33)
  g33 : mg "tree_of" = some (.ref (f 33))
  D34 : FunD K "refuse" "refuse" (defArgs (top 49)) (defBody (top 49)) (defScope (top 49)) [] [] (f 34) (fd 34)
  g34 : mg "refuse" = some (.ref (f 34))
  D35 : FunD K "__init__" "Draft.__init__" (defArgs (topC 50 0)) (defBody (topC 50 0)) (defScope (topC 50 0)) [] [] (f 35) (fd 35)
  D36 : FunD K "deed_names" "Draft.deed_names" (defArgs (topC 50 1)) (defBody (topC 50 1)) (defScope (topC 50 1)) [] [] (f 36) (fd 36)
  D37 : FunD K "add_name" "add_name" (defArgs (top 51)) (defBody (top 51)) (defScope (top 51)) [] [] (f 37) (fd 37)
  g37 : mg "add_name" = some (.ref (f 37))
  D38 : FunD K "pile_of" "pile_of" (defArgs (top 52)) (defBody (top 52)) (defScope (top 52)) [] [] (f 38) (fd 38)
  g38 : mg "pile_of" = some (.ref (f 38))
  D39 : FunD K "add_deed" "add_deed" (defArgs (top 53)) (defBody (top 53)) (defScope (top 53)) [] [] (f 39) (fd 39)
  g39 : mg "add_deed" = some (.ref (f 39))
  D40 : FunD K "done_of" "done_of" (defArgs (top 54)) (defBody (top 54)) (defScope (top 54)) [] [] (f 40) (fd 40)
  g40 : mg "done_of" = some (.ref (f 40))
  D41 : FunD K "place_in" "place_in" (defArgs (top 55)) (defBody (top 55)) (defScope (top 55)) [] [] (f 41) (fd 41)
  g41 : mg "place_in" = some (.ref (f 41))
  D42 : FunD K "statement_of" "statement_of" (defArgs (top 56)) (defBody (top 56)) (defScope (top 56)) [] [] (f 42) (fd 42)
  g42 : mg "statement_of" = some (.ref (f 42))
  D43 : FunD K "body_of" "body_of" (defArgs (top 57)) (defBody (top 57)) (defScope (top 57)) [] [] (f 43) (fd 43)
  g43 : mg "body_of" = some (.ref (f 43))
  D44 : FunD K "program_of" "program_of" (defArgs (top 58)) (defBody (top 58)) (defScope (top 58)) [] [] (f 44) (fd 44)
  g44 : mg "program_of" = some (.ref (f 44))
  D45 : FunD K "read_source" "read_source" (defArgs (top 59)) (defBody (top 59)) (defScope (top 59)) [] [] (f 45) (fd 45)
  g45 : mg "read_source" = some (.ref (f 45))
  D46 : FunD K "_law_box" "_law_box" (defArgs (top 61)) (defBody (top 61)) (defScope (top 61)) [] [] (f 46) (fd 46)
  g46 : mg "_law_box" = some (.ref (f 46))
  D47 : FunD K "_law_pick" "_law_pick" (defArgs (top 62)) (defBody (top 62)) (defScope (top 62)) [] [] (f 47) (fd 47)
  g47 : mg "_law_pick" = some (.ref (f 47))
  D48 : FunD K "_law_deeds" "_law_deeds" (defArgs (top 63)) (defBody (top 63)) (defScope (top 63)) [] [] (f 48) (fd 48)
  g48 : mg "_law_deeds" = some (.ref (f 48))
  D49 : FunD K "_law_program" "_law_program" (defArgs (top 64)) (defBody (top 64)) (defScope (top 64)) [] [] (f 49) (fd 49)
  g49 : mg "_law_program" = some (.ref (f 49))
  D50 : FunD K "_law_joined" "_law_joined" (defArgs (top 65)) (defBody (top 65)) (defScope (top 65)) [] [] (f 50) (fd 50)
  g50 : mg "_law_joined" = some (.ref (f 50))
  D51 : FunD K "_law_row" "_law_row" (defArgs (top 66)) (defBody (top 66)) (defScope (top 66)) [] [] (f 51) (fd 51)
  g51 : mg "_law_row" = some (.ref (f 51))
  D52 : FunD K "_law_is_for" "_law_is_for" (defArgs (top 67)) (defBody (top 67)) (defScope (top 67)) [] [] (f 52) (fd 52)
  g52 : mg "_law_is_for" = some (.ref (f 52))
  D53 : FunD K "_law_shortest" "_law_shortest" (defArgs (top 68)) (defBody (top 68)) (defScope (top 68)) [] [] (f 53) (fd 53)
  g53 : mg "_law_shortest" = some (.ref (f 53))
  D54 : FunD K "_law_same" "_law_same" (defArgs (top 69)) (defBody (top 69)) (defScope (top 69)) [] [] (f 54) (fd 54)
  g54 : mg "_law_same" = some (.ref (f 54))
  D55 : FunD K "_law_bool" "_law_bool" (defArgs (top 70)) (defBody (top 70)) (defScope (top 70)) [] [] (f 55) (fd 55)
  g55 : mg "_law_bool" = some (.ref (f 55))
  D56 : FunD K "_law_drawn_row" "_law_drawn_row" (defArgs (top 71)) (defBody (top 71)) (defScope (top 71)) [] [] (f 56) (fd 56)
  g56 : mg "_law_drawn_row" = some (.ref (f 56))
  D57 : FunD K "_law_effects" "_law_effects" (defArgs (top 72)) (defBody (top 72)) (defScope (top 72)) [] [] (f 57) (fd 57)
  g57 : mg "_law_effects" = some (.ref (f 57))
  D58 : FunD K "_law_asked" "_law_asked" (defArgs (top 73)) (defBody (top 73)) (defScope (top 73)) [] [] (f 58) (fd 58)
  g58 : mg "_law_asked" = some (.ref (f 58))
  D59 : FunD K "_law_by_hand" "_law_by_hand" (defArgs (top 74)) (defBody (top 74)) (defScope (top 74)) [] [] (f 59) (fd 59)
  g59 : mg "_law_by_hand" = some (.ref (f 59))
  D60 : FunD K "law" "law" (defArgs (top 75)) (defBody (top 75)) (defScope (top 75)) [] [] (f 60) (fd 60)
  g60 : mg "law" = some (.ref (f 60))
structure Bt (mg : PySem.Str → Option Value) : Prop where
  ValueError_ : mg "ValueError" = none
  abs_ : mg "abs" = none
  bool_ : mg "bool" = none
  enumerate_ : mg "enumerate" = none
  int_ : mg "int" = none
  isinstance_ : mg "isinstance" = none
  len_ : mg "len" = none
  list_ : mg "list" = none
  min_ : mg "min" = none
  range_ : mg "range" = none
  tuple_ : mg "tuple" = none
structure Ct (K : PySem.W.Frag) (mg : PySem.Str → Option Value) (f : Nat → Addr) : Prop where
  ok : True
  n_BODIES_MOST : ∃ u v, mg "BODIES_MOST" = some u ∧ RelV v u ∧ ∀ H, RepD K H K_BODIES_MOST v
  n_DEEDS_MOST : ∃ u v, mg "DEEDS_MOST" = some u ∧ RelV v u ∧ ∀ H, RepD K H K_DEEDS_MOST v
  n_DEPTH_MOST : ∃ u v, mg "DEPTH_MOST" = some u ∧ RelV v u ∧ ∀ H, RepD K H K_DEPTH_MOST v
  n_KEPT_WORDS : ∃ u v, mg "KEPT_WORDS" = some u ∧ RelV v u ∧ ∀ H, RepD K H K_KEPT_WORDS v
  n_KINDS_MOST : ∃ u v, mg "KINDS_MOST" = some u ∧ RelV v u ∧ ∀ H, RepD K H K_KINDS_MOST v
  n_NO_EFFECT : ∃ u v, mg "NO_EFFECT" = some u ∧ RelV v u ∧ ∀ H, RepD K H K_NO_EFFECT v
  n_REPEAT_MOST : ∃ u v, mg "REPEAT_MOST" = some u ∧ RelV v u ∧ ∀ H, RepD K H K_REPEAT_MOST v
  n_SIGNS : ∃ u v, mg "SIGNS" = some u ∧ RelV v u ∧ ∀ H, RepD K H K_SIGNS v
  n_SMALL_LETTERS : ∃ u v, mg "SMALL_LETTERS" = some u ∧ RelV v u ∧ ∀ H, RepD K H K_SMALL_LETTERS v
  n_STATEMENTS_MOST : ∃ u v, mg "STATEMENTS_MOST" = some u ∧ RelV v u ∧ ∀ H, RepD K H K_STATEMENTS_MOST v
  n_TAKEN_MOST : ∃ u v, mg "TAKEN_MOST" = some u ∧ RelV v u ∧ ∀ H, RepD K H K_TAKEN_MOST v
  n_TEN_FIGURES : ∃ u v, mg "TEN_FIGURES" = some u ∧ RelV v u ∧ ∀ H, RepD K H K_TEN_FIGURES v
  n_WORDS_MOST : ∃ u v, mg "WORDS_MOST" = some u ∧ RelV v u ∧ ∀ H, RepD K H K_WORDS_MOST v
  n_WORD_MOST : ∃ u v, mg "WORD_MOST" = some u ∧ RelV v u ∧ ∀ H, RepD K H K_WORD_MOST v
  g0 : mg "Reader" = some (.ref ((P1 K).ca 0))
  c0 : Cls K ((P1 K).ca 0)
  k0 : Mk K ((P1 K).ca 0) (f 16)
  g1 : mg "Draft" = some (.ref ((P1 K).ca 1))
  c1 : Cls K ((P1 K).ca 1)
  k1 : Mk K ((P1 K).ca 1) (f 35)
  m17 : Meth K ((P1 K).ca 0) "refuse" (f 17)
  m18 : Meth K ((P1 K).ca 0) "here" (f 18)
  m19 : Meth K ((P1 K).ca 0) "is_token" (f 19)
  m20 : Meth K ((P1 K).ca 0) "is_name" (f 20)
  m21 : Meth K ((P1 K).ca 0) "take" (f 21)
  m22 : Meth K ((P1 K).ca 0) "name" (f 22)
  m23 : Meth K ((P1 K).ca 0) "names" (f 23)
  m24 : Meth K ((P1 K).ca 0) "number" (f 24)
  m25 : Meth K ((P1 K).ca 0) "word" (f 25)
  m26 : Meth K ((P1 K).ca 0) "sign" (f 26)
  m36 : Meth K ((P1 K).ca 1) "deed_names" (f 36)
  x1_1 : NoAttr K ((P1 K).ca 1) "deeds"
  x5_1 : NoAttr K ((P1 K).ca 1) "kinds"
  x6_0 : NoAttr K ((P1 K).ca 0) "last"
  x7_1 : NoAttr K ((P1 K).ca 1) "many"
  x9_1 : NoAttr K ((P1 K).ca 1) "names"
  x11_0 : NoAttr K ((P1 K).ca 0) "place"
  x15_0 : NoAttr K ((P1 K).ca 0) "tokens"
theorem Ct.a1 {K : PySem.W.Frag} {mg : PySem.Str → Option Value} {f : Nat → Addr} (C : Ct K mg f) : ∀ c ∈ ([1] : List Nat), Cls K ((P1 K).ca c) ∧ NoAttr K ((P1 K).ca c) "deeds" := (List.forall_mem_cons.mpr ⟨⟨C.c1, C.x1_1⟩, (List.forall_mem_nil _)⟩)
theorem Ct.a5 {K : PySem.W.Frag} {mg : PySem.Str → Option Value} {f : Nat → Addr} (C : Ct K mg f) : ∀ c ∈ ([1] : List Nat), Cls K ((P1 K).ca c) ∧ NoAttr K ((P1 K).ca c) "kinds" := (List.forall_mem_cons.mpr ⟨⟨C.c1, C.x5_1⟩, (List.forall_mem_nil _)⟩)
theorem Ct.a6 {K : PySem.W.Frag} {mg : PySem.Str → Option Value} {f : Nat → Addr} (C : Ct K mg f) : ∀ c ∈ ([0] : List Nat), Cls K ((P1 K).ca c) ∧ NoAttr K ((P1 K).ca c) "last" := (List.forall_mem_cons.mpr ⟨⟨C.c0, C.x6_0⟩, (List.forall_mem_nil _)⟩)
theorem Ct.a7 {K : PySem.W.Frag} {mg : PySem.Str → Option Value} {f : Nat → Addr} (C : Ct K mg f) : ∀ c ∈ ([1] : List Nat), Cls K ((P1 K).ca c) ∧ NoAttr K ((P1 K).ca c) "many" := (List.forall_mem_cons.mpr ⟨⟨C.c1, C.x7_1⟩, (List.forall_mem_nil _)⟩)
theorem Ct.a9 {K : PySem.W.Frag} {mg : PySem.Str → Option Value} {f : Nat → Addr} (C : Ct K mg f) : ∀ c ∈ ([1] : List Nat), Cls K ((P1 K).ca c) ∧ NoAttr K ((P1 K).ca c) "names" := (List.forall_mem_cons.mpr ⟨⟨C.c1, C.x9_1⟩, (List.forall_mem_nil _)⟩)
theorem Ct.a11 {K : PySem.W.Frag} {mg : PySem.Str → Option Value} {f : Nat → Addr} (C : Ct K mg f) : ∀ c ∈ ([0] : List Nat), Cls K ((P1 K).ca c) ∧ NoAttr K ((P1 K).ca c) "place" := (List.forall_mem_cons.mpr ⟨⟨C.c0, C.x11_0⟩, (List.forall_mem_nil _)⟩)
theorem Ct.a15 {K : PySem.W.Frag} {mg : PySem.Str → Option Value} {f : Nat → Addr} (C : Ct K mg f) : ∀ c ∈ ([0] : List Nat), Cls K ((P1 K).ca c) ∧ NoAttr K ((P1 K).ca c) "tokens" := (List.forall_mem_cons.mpr ⟨⟨C.c0, C.x15_0⟩, (List.forall_mem_nil _)⟩)
section
variable {K : PySem.W.Frag} {mg : PySem.Str → Option Value} {f : Nat → Addr} {fd : Nat → FuncData}
theorem Tb.k0 (T : Tb K mg f fd) : PySem.W.keepIn K (.ref (f 0)) = true := T.D0.kp
theorem Tb.b0 (T : Tb K mg f fd) : Binds K (fd 0) (psOf 0) [] := T.D0.bindsN fun _ _ _ _ _ _ us hl => match us, hl with | [_, _], _ => rfl
theorem sc0 : FnScope ["pile", "front"] (psOf 0) (defScope (top 2)) := ⟨rfl, rfl, rfl, by decide +kernel, rfl, by decide +kernel, by decide +kernel⟩
theorem Tb.k1 (T : Tb K mg f fd) : PySem.W.keepIn K (.ref (f 1)) = true := T.D1.kp
theorem Tb.b1 (T : Tb K mg f fd) : Binds K (fd 1) (psOf 1) [] := T.D1.bindsN fun _ _ _ _ _ _ us hl => match us, hl with | [_, _], _ => rfl
theorem sc1 : FnScope ["one", "other", "off", "on", "wanted", "put"] (psOf 1) (defScope (top 3)) := ⟨rfl, rfl, rfl, by decide +kernel, rfl, by decide +kernel, by decide +kernel⟩
theorem Tb.k2 (T : Tb K mg f fd) : PySem.W.keepIn K (.ref (f 2)) = true := T.D2.kp
theorem Tb.b2 (T : Tb K mg f fd) : Binds K (fd 2) (psOf 2) [] := T.D2.bindsN fun _ _ _ _ _ _ us hl => match us, hl with | [_], _ => rfl
theorem sc2 : FnScope ["effects", "found", "effect"] (psOf 2) (defScope (top 4)) := ⟨rfl, rfl, rfl, by decide +kernel, rfl, by decide +kernel, by decide +kernel⟩
theorem Tb.k3 (T : Tb K mg f fd) : PySem.W.keepIn K (.ref (f 3)) = true := T.D3.kp
theorem Tb.b3 (T : Tb K mg f fd) : Binds K (fd 3) (psOf 3) [] := T.D3.bindsN fun _ _ _ _ _ _ us hl => match us, hl with | [_, _], _ => rfl
theorem sc3 : FnScope ["effect", "pile"] (psOf 3) (defScope (top 5)) := ⟨rfl, rfl, rfl, by decide +kernel, rfl, by decide +kernel, by decide +kernel⟩
theorem Tb.k4 (T : Tb K mg f fd) : PySem.W.keepIn K (.ref (f 4)) = true := T.D4.kp
theorem Tb.b4 (T : Tb K mg f fd) : Binds K (fd 4) (psOf 4) [] := T.D4.bindsN fun _ _ _ _ _ _ us hl => match us, hl with | [_, _], _ => rfl
theorem sc4 : FnScope ["one", "other", "many", "pile"] (psOf 4) (defScope (top 11)) := ⟨rfl, rfl, rfl, by decide +kernel, rfl, by decide +kernel, by decide +kernel⟩
theorem Tb.k5 (T : Tb K mg f fd) : PySem.W.keepIn K (.ref (f 5)) = true := T.D5.kp
theorem Tb.b5 (T : Tb K mg f fd) : Binds K (fd 5) (psOf 5) [] := T.D5.bindsN fun _ _ _ _ _ _ us hl => match us, hl with | [_, _], _ => rfl
theorem sc5 : FnScope ["one", "other"] (psOf 5) (defScope (top 12)) := ⟨rfl, rfl, rfl, by decide +kernel, rfl, by decide +kernel, by decide +kernel⟩
theorem Tb.k6 (T : Tb K mg f fd) : PySem.W.keepIn K (.ref (f 6)) = true := T.D6.kp
theorem Tb.b6 (T : Tb K mg f fd) : Binds K (fd 6) (psOf 6) [] := T.D6.bindsN fun _ _ _ _ _ _ us hl => match us, hl with | [_, _], _ => rfl
theorem sc6 : FnScope ["program", "row", "found", "deed"] (psOf 6) (defScope (top 14)) := ⟨rfl, rfl, rfl, by decide +kernel, rfl, by decide +kernel, by decide +kernel⟩
theorem Tb.k7 (T : Tb K mg f fd) : PySem.W.keepIn K (.ref (f 7)) = true := T.D7.kp
theorem Tb.b7 (T : Tb K mg f fd) : Binds K (fd 7) (psOf 7) [] := T.D7.bindsN fun _ _ _ _ _ _ us hl => match us, hl with | [_, _, _], _ => rfl
theorem sc7 : FnScope ["program", "row", "effect", "found"] (psOf 7) (defScope (top 15)) := ⟨rfl, rfl, rfl, by decide +kernel, rfl, by decide +kernel, by decide +kernel⟩
theorem Tb.k8 (T : Tb K mg f fd) : PySem.W.keepIn K (.ref (f 8)) = true := T.D8.kp
theorem Tb.b8 (T : Tb K mg f fd) : Binds K (fd 8) (psOf 8) [] := T.D8.bindsN fun _ _ _ _ _ _ us hl => match us, hl with | [_, _], _ => rfl
theorem sc8 : FnScope ["program", "rows", "found", "row", "effect", "number", "deed", "there"] (psOf 8) (defScope (top 16)) := ⟨rfl, rfl, rfl, by decide +kernel, rfl, by decide +kernel, by decide +kernel⟩
theorem Tb.k9 (T : Tb K mg f fd) : PySem.W.keepIn K (.ref (f 9)) = true := T.D9.kp
theorem Tb.b9 (T : Tb K mg f fd) : Binds K (fd 9) (psOf 9) [] := T.D9.bindsN fun _ _ _ _ _ _ us hl => match us, hl with | [_, _, _], _ => rfl
theorem sc9 : FnScope ["program", "effect", "most", "rows", "lap", "row", "told"] (psOf 9) (defScope (top 17)) := ⟨rfl, rfl, rfl, by decide +kernel, rfl, by decide +kernel, by decide +kernel⟩
theorem Tb.k10 (T : Tb K mg f fd) : PySem.W.keepIn K (.ref (f 10)) = true := T.D10.kp
theorem Tb.b10 (T : Tb K mg f fd) : Binds K (fd 10) (psOf 10) [] := T.D10.bindsN fun _ _ _ _ _ _ us hl => match us, hl with | [_], _ => rfl
theorem sc10 : FnScope ["text"] (psOf 10) (defScope (top 31)) := ⟨rfl, rfl, rfl, by decide +kernel, rfl, by decide +kernel, by decide +kernel⟩
theorem Tb.k11 (T : Tb K mg f fd) : PySem.W.keepIn K (.ref (f 11)) = true := T.D11.kp
theorem Tb.b11 (T : Tb K mg f fd) : Binds K (fd 11) (psOf 11) [] := T.D11.bindsN fun _ _ _ _ _ _ us hl => match us, hl with | [_], _ => rfl
theorem sc11 : FnScope ["text"] (psOf 11) (defScope (top 32)) := ⟨rfl, rfl, rfl, by decide +kernel, rfl, by decide +kernel, by decide +kernel⟩
theorem Tb.k12 (T : Tb K mg f fd) : PySem.W.keepIn K (.ref (f 12)) = true := T.D12.kp
theorem Tb.b12 (T : Tb K mg f fd) : Binds K (fd 12) (psOf 12) [] := T.D12.bindsN fun _ _ _ _ _ _ us hl => match us, hl with | [_, _, _], _ => rfl
theorem sc12 : FnScope ["line", "place", "signs"] (psOf 12) (defScope (top 35)) := ⟨rfl, rfl, rfl, by decide +kernel, rfl, by decide +kernel, by decide +kernel⟩
theorem Tb.k13 (T : Tb K mg f fd) : PySem.W.keepIn K (.ref (f 13)) = true := T.D13.kp
theorem Tb.b13 (T : Tb K mg f fd) : Binds K (fd 13) (psOf 13) [] := T.D13.bindsN fun _ _ _ _ _ _ us hl => match us, hl with | [_, _, _], _ => rfl
theorem sc13 : FnScope ["number", "line", "place", "kind", "end"] (psOf 13) (defScope (top 36)) := ⟨rfl, rfl, rfl, by decide +kernel, rfl, by decide +kernel, by decide +kernel⟩
theorem Tb.k14 (T : Tb K mg f fd) : PySem.W.keepIn K (.ref (f 14)) = true := T.D14.kp
theorem Tb.b14 (T : Tb K mg f fd) : Binds K (fd 14) (psOf 14) [] := T.D14.bindsN fun _ _ _ _ _ _ us hl => match us, hl with | [_, _], _ => rfl
theorem sc14 : FnScope ["number", "line", "found", "place", "token"] (psOf 14) (defScope (top 37)) := ⟨rfl, rfl, rfl, by decide +kernel, rfl, by decide +kernel, by decide +kernel⟩
theorem Tb.k15 (T : Tb K mg f fd) : PySem.W.keepIn K (.ref (f 15)) = true := T.D15.kp
theorem Tb.b15 (T : Tb K mg f fd) : Binds K (fd 15) (psOf 15) [] := T.D15.bindsN fun _ _ _ _ _ _ us hl => match us, hl with | [_], _ => rfl
theorem sc15 : FnScope ["text", "found", "at", "line"] (psOf 15) (defScope (top 38)) := ⟨rfl, rfl, rfl, by decide +kernel, rfl, by decide +kernel, by decide +kernel⟩
theorem Tb.k16 (T : Tb K mg f fd) : PySem.W.keepIn K (.ref (f 16)) = true := T.D16.kp
theorem Tb.b16 (T : Tb K mg f fd) : Binds K (fd 16) (psOf 16) [] := T.D16.bindsN fun _ _ _ _ _ _ us hl => match us, hl with | [_, _], _ => rfl
theorem sc16 : FnScope ["self", "text"] (psOf 16) (defScope (topC 40 0)) := ⟨rfl, rfl, rfl, by decide +kernel, rfl, by decide +kernel, by decide +kernel⟩
theorem Tb.k17 (T : Tb K mg f fd) : PySem.W.keepIn K (.ref (f 17)) = true := T.D17.kp
theorem Tb.b17 (T : Tb K mg f fd) : Binds K (fd 17) (psOf 17) [] := T.D17.bindsN fun _ _ _ _ _ _ us hl => match us, hl with | [_, _], _ => rfl
theorem sc17 : FnScope ["self", "word", "line", "place"] (psOf 17) (defScope (topC 40 1)) := ⟨rfl, rfl, rfl, by decide +kernel, rfl, by decide +kernel, by decide +kernel⟩
theorem Tb.k18 (T : Tb K mg f fd) : PySem.W.keepIn K (.ref (f 18)) = true := T.D18.kp
theorem Tb.b18 (T : Tb K mg f fd) : Binds K (fd 18) (psOf 18) [] := T.D18.bindsN fun _ _ _ _ _ _ us hl => match us, hl with | [_], _ => rfl
theorem sc18 : FnScope ["self"] (psOf 18) (defScope (topC 40 2)) := ⟨rfl, rfl, rfl, by decide +kernel, rfl, by decide +kernel, by decide +kernel⟩
theorem Tb.k19 (T : Tb K mg f fd) : PySem.W.keepIn K (.ref (f 19)) = true := T.D19.kp
theorem Tb.b19 (T : Tb K mg f fd) : Binds K (fd 19) (psOf 19) [] := T.D19.bindsN fun _ _ _ _ _ _ us hl => match us, hl with | [_, _, _], _ => rfl
theorem sc19 : FnScope ["self", "kind", "word"] (psOf 19) (defScope (topC 40 3)) := ⟨rfl, rfl, rfl, by decide +kernel, rfl, by decide +kernel, by decide +kernel⟩
theorem Tb.k20 (T : Tb K mg f fd) : PySem.W.keepIn K (.ref (f 20)) = true := T.D20.kp
theorem Tb.b20 (T : Tb K mg f fd) : Binds K (fd 20) (psOf 20) [] := T.D20.bindsN fun _ _ _ _ _ _ us hl => match us, hl with | [_], _ => rfl
theorem sc20 : FnScope ["self"] (psOf 20) (defScope (topC 40 4)) := ⟨rfl, rfl, rfl, by decide +kernel, rfl, by decide +kernel, by decide +kernel⟩
theorem Tb.k21 (T : Tb K mg f fd) : PySem.W.keepIn K (.ref (f 21)) = true := T.D21.kp
theorem Tb.b21 (T : Tb K mg f fd) : Binds K (fd 21) (psOf 21) [] := T.D21.bindsN fun _ _ _ _ _ _ us hl => match us, hl with | [_], _ => rfl
theorem sc21 : FnScope ["self", "where"] (psOf 21) (defScope (topC 40 5)) := ⟨rfl, rfl, rfl, by decide +kernel, rfl, by decide +kernel, by decide +kernel⟩
theorem Tb.k22 (T : Tb K mg f fd) : PySem.W.keepIn K (.ref (f 22)) = true := T.D22.kp
theorem Tb.b22 (T : Tb K mg f fd) : Binds K (fd 22) (psOf 22) [] := T.D22.bindsN fun _ _ _ _ _ _ us hl => match us, hl with | [_], _ => rfl
theorem sc22 : FnScope ["self"] (psOf 22) (defScope (topC 40 6)) := ⟨rfl, rfl, rfl, by decide +kernel, rfl, by decide +kernel, by decide +kernel⟩
theorem Tb.k23 (T : Tb K mg f fd) : PySem.W.keepIn K (.ref (f 23)) = true := T.D23.kp
theorem Tb.b23 (T : Tb K mg f fd) : Binds K (fd 23) (psOf 23) [] := T.D23.bindsN fun _ _ _ _ _ _ us hl => match us, hl with | [_], _ => rfl
theorem sc23 : FnScope ["self", "found"] (psOf 23) (defScope (topC 40 7)) := ⟨rfl, rfl, rfl, by decide +kernel, rfl, by decide +kernel, by decide +kernel⟩
theorem Tb.k24 (T : Tb K mg f fd) : PySem.W.keepIn K (.ref (f 24)) = true := T.D24.kp
theorem Tb.b24 (T : Tb K mg f fd) : Binds K (fd 24) (psOf 24) [] := T.D24.bindsN fun _ _ _ _ _ _ us hl => match us, hl with | [_], _ => rfl
theorem sc24 : FnScope ["self", "word", "where"] (psOf 24) (defScope (topC 40 8)) := ⟨rfl, rfl, rfl, by decide +kernel, rfl, by decide +kernel, by decide +kernel⟩
theorem Tb.k25 (T : Tb K mg f fd) : PySem.W.keepIn K (.ref (f 25)) = true := T.D25.kp
theorem Tb.b25 (T : Tb K mg f fd) : Binds K (fd 25) (psOf 25) [] := T.D25.bindsN fun _ _ _ _ _ _ us hl => match us, hl with | [_, _], _ => rfl
theorem sc25 : FnScope ["self", "word"] (psOf 25) (defScope (topC 40 9)) := ⟨rfl, rfl, rfl, by decide +kernel, rfl, by decide +kernel, by decide +kernel⟩
theorem Tb.k26 (T : Tb K mg f fd) : PySem.W.keepIn K (.ref (f 26)) = true := T.D26.kp
theorem Tb.b26 (T : Tb K mg f fd) : Binds K (fd 26) (psOf 26) [] := T.D26.bindsN fun _ _ _ _ _ _ us hl => match us, hl with | [_, _], _ => rfl
theorem sc26 : FnScope ["self", "sign"] (psOf 26) (defScope (topC 40 10)) := ⟨rfl, rfl, rfl, by decide +kernel, rfl, by decide +kernel, by decide +kernel⟩
theorem Tb.k27 (T : Tb K mg f fd) : PySem.W.keepIn K (.ref (f 27)) = true := T.D27.kp
theorem Tb.b27 (T : Tb K mg f fd) : Binds K (fd 27) (psOf 27) [] := T.D27.bindsN fun _ _ _ _ _ _ us hl => match us, hl with | [_], _ => rfl
theorem sc27 : FnScope ["reader", "found"] (psOf 27) (defScope (top 41)) := ⟨rfl, rfl, rfl, by decide +kernel, rfl, by decide +kernel, by decide +kernel⟩
theorem Tb.k28 (T : Tb K mg f fd) : PySem.W.keepIn K (.ref (f 28)) = true := T.D28.kp
theorem Tb.b28 (T : Tb K mg f fd) : Binds K (fd 28) (psOf 28) [] := T.D28.bindsN fun _ _ _ _ _ _ us hl => match us, hl with | [_], _ => rfl
theorem sc28 : FnScope ["reader", "name", "off", "put"] (psOf 28) (defScope (top 42)) := ⟨rfl, rfl, rfl, by decide +kernel, rfl, by decide +kernel, by decide +kernel⟩
theorem Tb.k29 (T : Tb K mg f fd) : PySem.W.keepIn K (.ref (f 29)) = true := T.D29.kp
theorem Tb.b29 (T : Tb K mg f fd) : Binds K (fd 29) (psOf 29) [] := T.D29.bindsN fun _ _ _ _ _ _ us hl => match us, hl with | [_], _ => rfl
theorem sc29 : FnScope ["reader", "where", "blocks"] (psOf 29) (defScope (top 43)) := ⟨rfl, rfl, rfl, by decide +kernel, rfl, by decide +kernel, by decide +kernel⟩
theorem Tb.k30 (T : Tb K mg f fd) : PySem.W.keepIn K (.ref (f 30)) = true := T.D30.kp
theorem Tb.b30 (T : Tb K mg f fd) : Binds K (fd 30) (psOf 30) [] := T.D30.bindsN fun _ _ _ _ _ _ us hl => match us, hl with | [_], _ => rfl
theorem sc30 : FnScope ["reader", "where", "number", "told"] (psOf 30) (defScope (top 44)) := ⟨rfl, rfl, rfl, by decide +kernel, rfl, by decide +kernel, by decide +kernel⟩
theorem Tb.k31 (T : Tb K mg f fd) : PySem.W.keepIn K (.ref (f 31)) = true := T.D31.kp
theorem Tb.b31 (T : Tb K mg f fd) : Binds K (fd 31) (psOf 31) [] := T.D31.bindsN fun _ _ _ _ _ _ us hl => match us, hl with | [_], _ => rfl
theorem sc31 : FnScope ["reader", "found"] (psOf 31) (defScope (top 45)) := ⟨rfl, rfl, rfl, by decide +kernel, rfl, by decide +kernel, by decide +kernel⟩
theorem Tb.k32 (T : Tb K mg f fd) : PySem.W.keepIn K (.ref (f 32)) = true := T.D32.kp
theorem Tb.b32 (T : Tb K mg f fd) : Binds K (fd 32) (psOf 32) [] := T.D32.bindsN fun _ _ _ _ _ _ us hl => match us, hl with | [_], _ => rfl
theorem sc32 : FnScope ["reader", "found", "name"] (psOf 32) (defScope (top 46)) := ⟨rfl, rfl, rfl, by decide +kernel, rfl, by decide +kernel, by decide +kernel⟩
theorem Tb.k33 (T : Tb K mg f fd) : PySem.W.keepIn K (.ref (f 33)) = true := T.D33.kp
theorem Tb.b33 (T : Tb K mg f fd) : Binds K (fd 33) (psOf 33) [] := T.D33.bindsN fun _ _ _ _ _ _ us hl => match us, hl with | [_], _ => rfl
theorem sc33 : FnScope ["text", "reader", "kinds", "deeds"] (psOf 33) (defScope (top 47)) := ⟨rfl, rfl, rfl, by decide +kernel, rfl, by decide +kernel, by decide +kernel⟩
theorem Tb.k34 (T : Tb K mg f fd) : PySem.W.keepIn K (.ref (f 34)) = true := T.D34.kp
theorem Tb.b34 (T : Tb K mg f fd) : Binds K (fd 34) (psOf 34) [] := T.D34.bindsN fun _ _ _ _ _ _ us hl => match us, hl with | [_, _], _ => rfl
theorem sc34 : FnScope ["where", "word"] (psOf 34) (defScope (top 49)) := ⟨rfl, rfl, rfl, by decide +kernel, rfl, by decide +kernel, by decide +kernel⟩
theorem Tb.k35 (T : Tb K mg f fd) : PySem.W.keepIn K (.ref (f 35)) = true := T.D35.kp
theorem Tb.b35 (T : Tb K mg f fd) : Binds K (fd 35) (psOf 35) [] := T.D35.bindsN fun _ _ _ _ _ _ us hl => match us, hl with | [_], _ => rfl
theorem sc35 : FnScope ["self"] (psOf 35) (defScope (topC 50 0)) := ⟨rfl, rfl, rfl, by decide +kernel, rfl, by decide +kernel, by decide +kernel⟩
theorem Tb.k36 (T : Tb K mg f fd) : PySem.W.keepIn K (.ref (f 36)) = true := T.D36.kp
theorem Tb.b36 (T : Tb K mg f fd) : Binds K (fd 36) (psOf 36) [] := T.D36.bindsN fun _ _ _ _ _ _ us hl => match us, hl with | [_], _ => rfl
theorem sc36 : FnScope ["self", "deed"] (psOf 36) (defScope (topC 50 1)) := ⟨rfl, rfl, rfl, by decide +kernel, rfl, by decide +kernel, by decide +kernel⟩
theorem Tb.k37 (T : Tb K mg f fd) : PySem.W.keepIn K (.ref (f 37)) = true := T.D37.kp
theorem Tb.b37 (T : Tb K mg f fd) : Binds K (fd 37) (psOf 37) [] := T.D37.bindsN fun _ _ _ _ _ _ us hl => match us, hl with | [_, _, _, _], _ => rfl
theorem sc37 : FnScope ["found", "others", "name", "most"] (psOf 37) (defScope (top 51)) := ⟨rfl, rfl, rfl, by decide +kernel, rfl, by decide +kernel, by decide +kernel⟩
theorem Tb.k38 (T : Tb K mg f fd) : PySem.W.keepIn K (.ref (f 38)) = true := T.D38.kp
theorem Tb.b38 (T : Tb K mg f fd) : Binds K (fd 38) (psOf 38) [] := T.D38.bindsN fun _ _ _ _ _ _ us hl => match us, hl with | [_, _], _ => rfl
theorem sc38 : FnScope ["draft", "names", "found", "word", "where"] (psOf 38) (defScope (top 52)) := ⟨rfl, rfl, rfl, by decide +kernel, rfl, by decide +kernel, by decide +kernel⟩
theorem Tb.k39 (T : Tb K mg f fd) : PySem.W.keepIn K (.ref (f 39)) = true := T.D39.kp
theorem Tb.b39 (T : Tb K mg f fd) : Binds K (fd 39) (psOf 39) [] := T.D39.bindsN fun _ _ _ _ _ _ us hl => match us, hl with | [_, _], _ => rfl
theorem sc39 : FnScope ["draft", "told", "name", "off", "put"] (psOf 39) (defScope (top 53)) := ⟨rfl, rfl, rfl, by decide +kernel, rfl, by decide +kernel, by decide +kernel⟩
theorem Tb.k40 (T : Tb K mg f fd) : PySem.W.keepIn K (.ref (f 40)) = true := T.D40.kp
theorem Tb.b40 (T : Tb K mg f fd) : Binds K (fd 40) (psOf 40) [] := T.D40.bindsN fun _ _ _ _ _ _ us hl => match us, hl with | [_, _], _ => rfl
theorem sc40 : FnScope ["draft", "name"] (psOf 40) (defScope (top 54)) := ⟨rfl, rfl, rfl, by decide +kernel, rfl, by decide +kernel, by decide +kernel⟩
theorem Tb.k41 (T : Tb K mg f fd) : PySem.W.keepIn K (.ref (f 41)) = true := T.D41.kp
theorem Tb.b41 (T : Tb K mg f fd) : Binds K (fd 41) (psOf 41) [] := T.D41.bindsN fun _ _ _ _ _ _ us hl => match us, hl with | [_], _ => rfl
theorem sc41 : FnScope ["statement"] (psOf 41) (defScope (top 55)) := ⟨rfl, rfl, rfl, by decide +kernel, rfl, by decide +kernel, by decide +kernel⟩
theorem Tb.k42 (T : Tb K mg f fd) : PySem.W.keepIn K (.ref (f 42)) = true := T.D42.kp
theorem Tb.b42 (T : Tb K mg f fd) : Binds K (fd 42) (psOf 42) [] := T.D42.bindsN fun _ _ _ _ _ _ us hl => match us, hl with | [_, _, _], _ => rfl
theorem sc42 : FnScope ["draft", "statement", "deep", "word", "where", "number", "place", "block"] (psOf 42) (defScope (top 56)) := ⟨rfl, rfl, rfl, by decide +kernel, rfl, by decide +kernel, by decide +kernel⟩
theorem Tb.k43 (T : Tb K mg f fd) : PySem.W.keepIn K (.ref (f 43)) = true := T.D43.kp
theorem Tb.b43 (T : Tb K mg f fd) : Binds K (fd 43) (psOf 43) [] := T.D43.bindsN fun _ _ _ _ _ _ us hl => match us, hl with | [_, _, _], _ => rfl
theorem sc43 : FnScope ["draft", "block", "deep", "statement"] (psOf 43) (defScope (top 57)) := ⟨rfl, rfl, rfl, by decide +kernel, rfl, by decide +kernel, by decide +kernel⟩
theorem Tb.k44 (T : Tb K mg f fd) : PySem.W.keepIn K (.ref (f 44)) = true := T.D44.kp
theorem Tb.b44 (T : Tb K mg f fd) : Binds K (fd 44) (psOf 44) [] := T.D44.bindsN fun _ _ _ _ _ _ us hl => match us, hl with | [_], _ => rfl
theorem sc44 : FnScope ["tree", "kinds", "deeds", "words", "draft", "name", "deed", "block", "bodies"] (psOf 44) (defScope (top 58)) := ⟨rfl, rfl, rfl, by decide +kernel, rfl, by decide +kernel, by decide +kernel⟩
theorem Tb.k45 (T : Tb K mg f fd) : PySem.W.keepIn K (.ref (f 45)) = true := T.D45.kp
theorem Tb.b45 (T : Tb K mg f fd) : Binds K (fd 45) (psOf 45) [] := T.D45.bindsN fun _ _ _ _ _ _ us hl => match us, hl with | [_], _ => rfl
theorem sc45 : FnScope ["text"] (psOf 45) (defScope (top 59)) := ⟨rfl, rfl, rfl, by decide +kernel, rfl, by decide +kernel, by decide +kernel⟩
theorem Tb.k46 (T : Tb K mg f fd) : PySem.W.keepIn K (.ref (f 46)) = true := T.D46.kp
theorem Tb.b46 (T : Tb K mg f fd) : Binds K (fd 46) (psOf 46) [] := T.D46.bindsN fun _ _ _ _ _ _ us hl => match us, hl with | [_], _ => rfl
theorem sc46 : FnScope ["script", "great", "mixed", "cell", "size", "leans", "place"] (psOf 46) (defScope (top 61)) := ⟨rfl, rfl, rfl, by decide +kernel, rfl, by decide +kernel, by decide +kernel⟩
theorem Tb.k47 (T : Tb K mg f fd) : PySem.W.keepIn K (.ref (f 47)) = true := T.D47.kp
theorem Tb.b47 (T : Tb K mg f fd) : Binds K (fd 47) (psOf 47) [] := T.D47.bindsN fun _ _ _ _ _ _ us hl => match us, hl with | [_, _, _], _ => rfl
theorem sc47 : FnScope ["box", "place", "many", "size", "lean"] (psOf 47) (defScope (top 62)) := ⟨rfl, rfl, rfl, by decide +kernel, rfl, by decide +kernel, by decide +kernel⟩
theorem Tb.k48 (T : Tb K mg f fd) : PySem.W.keepIn K (.ref (f 48)) = true := T.D48.kp
theorem Tb.b48 (T : Tb K mg f fd) : Binds K (fd 48) (psOf 48) [] := T.D48.bindsN fun _ _ _ _ _ _ us hl => match us, hl with | [_, _, _], _ => rfl
theorem sc48 : FnScope ["box", "many", "kinds", "rows", "k", "off", "on", "lap"] (psOf 48) (defScope (top 63)) := ⟨rfl, rfl, rfl, by decide +kernel, rfl, by decide +kernel, by decide +kernel⟩
theorem Tb.k49 (T : Tb K mg f fd) : PySem.W.keepIn K (.ref (f 49)) = true := T.D49.kp
theorem Tb.b49 (T : Tb K mg f fd) : Binds K (fd 49) (psOf 49) [] := T.D49.bindsN fun _ _ _ _ _ _ us hl => match us, hl with | [_, _, _], _ => rfl
theorem sc49 : FnScope ["box", "deeds", "kinds", "names", "bodies"] (psOf 49) (defScope (top 64)) := ⟨rfl, rfl, rfl, by decide +kernel, rfl, by decide +kernel, by decide +kernel⟩
theorem Tb.k50 (T : Tb K mg f fd) : PySem.W.keepIn K (.ref (f 50)) = true := T.D50.kp
theorem Tb.b50 (T : Tb K mg f fd) : Binds K (fd 50) (psOf 50) [] := T.D50.bindsN fun _ _ _ _ _ _ us hl => match us, hl with | [_, _], _ => rfl
theorem sc50 : FnScope ["one", "other", "on", "off", "less"] (psOf 50) (defScope (top 65)) := ⟨rfl, rfl, rfl, by decide +kernel, rfl, by decide +kernel, by decide +kernel⟩
theorem Tb.k51 (T : Tb K mg f fd) : PySem.W.keepIn K (.ref (f 51)) = true := T.D51.kp
theorem Tb.b51 (T : Tb K mg f fd) : Binds K (fd 51) (psOf 51) [] := T.D51.bindsN fun _ _ _ _ _ _ us hl => match us, hl with | [_, _], _ => rfl
theorem sc51 : FnScope ["deeds", "row", "told", "d"] (psOf 51) (defScope (top 66)) := ⟨rfl, rfl, rfl, by decide +kernel, rfl, by decide +kernel, by decide +kernel⟩
theorem Tb.k52 (T : Tb K mg f fd) : PySem.W.keepIn K (.ref (f 52)) = true := T.D52.kp
theorem Tb.b52 (T : Tb K mg f fd) : Binds K (fd 52) (psOf 52) [] := T.D52.bindsN fun _ _ _ _ _ _ us hl => match us, hl with | [_, _], _ => rfl
theorem sc52 : FnScope ["told", "effect", "off", "on", "rest"] (psOf 52) (defScope (top 67)) := ⟨rfl, rfl, rfl, by decide +kernel, rfl, by decide +kernel, by decide +kernel⟩
theorem Tb.k53 (T : Tb K mg f fd) : PySem.W.keepIn K (.ref (f 53)) = true := T.D53.kp
theorem Tb.b53 (T : Tb K mg f fd) : Binds K (fd 53) (psOf 53) [] := T.D53.bindsN fun _ _ _ _ _ _ us hl => match us, hl with | [_, _, _], _ => rfl
theorem sc53 : FnScope ["deeds", "effect", "most", "rows", "lap", "row", "told", "longer", "d", "more"] (psOf 53) (defScope (top 68)) := ⟨rfl, rfl, rfl, by decide +kernel, rfl, by decide +kernel, by decide +kernel⟩
theorem Tb.k54 (T : Tb K mg f fd) : PySem.W.keepIn K (.ref (f 54)) = true := T.D54.kp
theorem Tb.b54 (T : Tb K mg f fd) : Binds K (fd 54) (psOf 54) [] := T.D54.bindsN fun _ _ _ _ _ _ us hl => match us, hl with | [_, _], _ => rfl
theorem sc54 : FnScope ["told", "due", "todo", "one", "other", "at"] (psOf 54) (defScope (top 69)) := ⟨rfl, rfl, rfl, by decide +kernel, rfl, by decide +kernel, by decide +kernel⟩
theorem Tb.k55 (T : Tb K mg f fd) : PySem.W.keepIn K (.ref (f 55)) = true := T.D55.kp
theorem Tb.b55 (T : Tb K mg f fd) : Binds K (fd 55) (psOf 55) [] := T.D55.bindsN fun _ _ _ _ _ _ us hl => match us, hl with | [_, _], _ => rfl
theorem sc55 : FnScope ["told", "due"] (psOf 55) (defScope (top 70)) := ⟨rfl, rfl, rfl, by decide +kernel, rfl, by decide +kernel, by decide +kernel⟩
theorem Tb.k56 (T : Tb K mg f fd) : PySem.W.keepIn K (.ref (f 56)) = true := T.D56.kp
theorem Tb.b56 (T : Tb K mg f fd) : Binds K (fd 56) (psOf 56) [] := T.D56.bindsN fun _ _ _ _ _ _ us hl => match us, hl with | [_, _, _], _ => rfl
theorem sc56 : FnScope ["box", "deeds", "most", "row", "told", "lap", "some", "d"] (psOf 56) (defScope (top 71)) := ⟨rfl, rfl, rfl, by decide +kernel, rfl, by decide +kernel, by decide +kernel⟩
theorem Tb.k57 (T : Tb K mg f fd) : PySem.W.keepIn K (.ref (f 57)) = true := T.D57.kp
theorem Tb.b57 (T : Tb K mg f fd) : Binds K (fd 57) (psOf 57) [] := T.D57.bindsN fun _ _ _ _ _ _ us hl => match us, hl with | [_, _, _, _], _ => rfl
theorem sc57 : FnScope ["box", "deeds", "row", "kinds", "told", "more", "base", "rows", "lap"] (psOf 57) (defScope (top 72)) := ⟨rfl, rfl, rfl, by decide +kernel, rfl, by decide +kernel, by decide +kernel⟩
theorem Tb.k58 (T : Tb K mg f fd) : PySem.W.keepIn K (.ref (f 58)) = true := T.D58.kp
theorem Tb.b58 (T : Tb K mg f fd) : Binds K (fd 58) (psOf 58) [] := T.D58.bindsN fun _ _ _ _ _ _ us hl => match us, hl with | [_, _, _, _, _], _ => rfl
theorem sc58 : FnScope ["box", "program", "kinds", "most", "long", "deeds", "row", "due", "effects", "effect", "other", "at", "d", "rows", "one", "first", "second", "more", "longer"] (psOf 58) (defScope (top 73)) := ⟨rfl, rfl, rfl, by decide +kernel, rfl, by decide +kernel, by decide +kernel⟩
theorem Tb.k59 (T : Tb K mg f fd) : PySem.W.keepIn K (.ref (f 59)) = true := T.D59.kp
theorem Tb.b59 (T : Tb K mg f fd) : Binds K (fd 59) (psOf 59) [] := T.D59.bindsN fun _ _ _ _ _ _ us hl => match us, hl with | [], _ => rfl
theorem sc59 : FnScope ["calc", "program", "told", "looks", "row", "effect", "due", "twins"] (psOf 59) (defScope (top 74)) := ⟨rfl, rfl, rfl, by decide +kernel, rfl, by decide +kernel, by decide +kernel⟩
theorem Tb.k60 (T : Tb K mg f fd) : PySem.W.keepIn K (.ref (f 60)) = true := T.D60.kp
theorem Tb.b60 (T : Tb K mg f fd) : Binds K (fd 60) (psOf 60) [] := T.D60.bindsN fun _ _ _ _ _ _ us hl => match us, hl with | [_], _ => rfl
theorem sc60 : FnScope ["script", "box", "wide", "lap", "kinds", "deeds"] (psOf 60) (defScope (top 75)) := ⟨rfl, rfl, rfl, by decide +kernel, rfl, by decide +kernel, by decide +kernel⟩
theorem kb9_102 (T : Tb K mg f fd) : KBd K (fd 9) (psOf 9) ["effect", "program", "most"] [1, 0, 2] := by
  obtain ⟨oc, od, dV, kV, doc, pm, an, cdv, ct, osl, e, lk, hcd, hD, hK⟩ := T.D9.ex
  intro s ws _ hl
  rcases hD with ⟨_, rfl⟩ | ⟨z, _⟩
  · rw [e]; exact BindsTo.of_eq (match ws, hl with | [_, _, _], _ => rfl)
  · exact absurd rfl z
theorem kb9_210 (T : Tb K mg f fd) : KBd K (fd 9) (psOf 9) ["most", "effect", "program"] [2, 1, 0] := by
  obtain ⟨oc, od, dV, kV, doc, pm, an, cdv, ct, osl, e, lk, hcd, hD, hK⟩ := T.D9.ex
  intro s ws _ hl
  rcases hD with ⟨_, rfl⟩ | ⟨z, _⟩
  · rw [e]; exact BindsTo.of_eq (match ws, hl with | [_, _, _], _ => rfl)
  · exact absurd rfl z
theorem kb6_10 (T : Tb K mg f fd) : KBd K (fd 6) (psOf 6) ["row", "program"] [1, 0] := by
  obtain ⟨oc, od, dV, kV, doc, pm, an, cdv, ct, osl, e, lk, hcd, hD, hK⟩ := T.D6.ex
  intro s ws _ hl
  rcases hD with ⟨_, rfl⟩ | ⟨z, _⟩
  · rw [e]; exact BindsTo.of_eq (match ws, hl with | [_, _], _ => rfl)
  · exact absurd rfl z
theorem kb7_120 (T : Tb K mg f fd) : KBd K (fd 7) (psOf 7) ["effect", "program", "row"] [1, 2, 0] := by
  obtain ⟨oc, od, dV, kV, doc, pm, an, cdv, ct, osl, e, lk, hcd, hD, hK⟩ := T.D7.ex
  intro s ws _ hl
  rcases hD with ⟨_, rfl⟩ | ⟨z, _⟩
  · rw [e]; exact BindsTo.of_eq (match ws, hl with | [_, _, _], _ => rfl)
  · exact absurd rfl z
end
section
variable {Pg : Program} {w : World} {K : PySem.W.Frag} {mg : PySem.Str → Option Value} {base : Heap} {f : Nat → Addr} {fd : Nat → FuncData} {k : Nat} {call : Call}
theorem w0 (T : Tb K mg f fd) (B : Bt mg) (C : Ct K mg f) (Fs : ∀ j, j < 61 → FnOk Pg w K mg base (L2.CX Pg w) k (f j) (fd j) (psOf j) (spF (P1 K) K call j (psOf j).length)) (cdv : Value) (A : Around) (outer : List Env) (s : Shared) (H : Hp) (E : XK) (hr : Room (k + 1) (A.deeper (envOfC "begins" (defScope (top 2)) s.heap.objs.size (f 0) cdv))) :
    PSs (cxOf (L2.CX Pg w) Pg w K mg base ["pile", "front"] "begins" (defScope (top 2)) (f 0) cdv A outer s H E) (defBody (top 2)) (tS (P1 K) K (fun cls d _ H => E cls d H) (B0 call)) := by
  have hr0 := hr.mono (Nat.le_succ k)
  have hu := Room.h64 hr
  have hu1 := Room.h1 hr
  have nd := sc0.nd
  have hp : PassesOwn (model Pg w) _ (cxOf (L2.CX Pg w) Pg w K mg base ["pile", "front"] "begins" (defScope (top 2)) (f 0) cdv A outer s H E).env (cxOf (L2.CX Pg w) Pg w K mg base ["pile", "front"] "begins" (defScope (top 2)) (f 0) cdv A outer s H E).xe := passes_of rfl
  have tk : Takes (cxOf (L2.CX Pg w) Pg w K mg base ["pile", "front"] "begins" (defScope (top 2)) (f 0) cdv A outer s H E) (fun cls d _ H => E cls d H) := takes_of rfl rfl rfl rfl
  exact (c_one (c_ret (s_eq hu (s_sl (s_v (i := 0) rfl (.inl rfl)) o_none (o_some (s_len (by rfl) B.len_ (s_v (i := 1) rfl (.inl rfl))))) (s_v (i := 1) rfl (.inl rfl)))))
theorem w1 (T : Tb K mg f fd) (B : Bt mg) (C : Ct K mg f) (Fs : ∀ j, j < 61 → FnOk Pg w K mg base (L2.CX Pg w) k (f j) (fd j) (psOf j) (spF (P1 K) K call j (psOf j).length)) (cdv : Value) (A : Around) (outer : List Env) (s : Shared) (H : Hp) (E : XK) (hr : Room (k + 1) (A.deeper (envOfC "joined" (defScope (top 3)) s.heap.objs.size (f 1) cdv))) :
    PSs (cxOf (L2.CX Pg w) Pg w K mg base ["one", "other", "off", "on", "wanted", "put"] "joined" (defScope (top 3)) (f 1) cdv A outer s H E) (defBody (top 3)) (tS (P1 K) K (fun cls d _ H => E cls d H) (B1 call)) := by
  have hr0 := hr.mono (Nat.le_succ k)
  have hu := Room.h64 hr
  have hu1 := Room.h1 hr
  have nd := sc1.nd
  have hp : PassesOwn (model Pg w) _ (cxOf (L2.CX Pg w) Pg w K mg base ["one", "other", "off", "on", "wanted", "put"] "joined" (defScope (top 3)) (f 1) cdv A outer s H E).env (cxOf (L2.CX Pg w) Pg w K mg base ["one", "other", "off", "on", "wanted", "put"] "joined" (defScope (top 3)) (f 1) cdv A outer s H E).xe := passes_of rfl
  have tk : Takes (cxOf (L2.CX Pg w) Pg w K mg base ["one", "other", "off", "on", "wanted", "put"] "joined" (defScope (top 3)) (f 1) cdv A outer s H E) (fun cls d _ H => E cls d H) := takes_of rfl rfl rfl rfl
  exact (c_cons (c_unp (s_v (i := 0) rfl (.inl rfl)) (g_tup rfl (gs_cons (g_name (vs := [2, 3]) nd rfl (.inl rfl) (by decide)) (gs_cons (g_name (vs := [2, 3]) nd rfl (.inl rfl) (by decide)) gs_nil)))) (c_cons (c_unp (s_v (i := 1) rfl (.inl rfl)) (g_tup rfl (gs_cons (g_name (vs := [4, 5]) nd rfl (.inl rfl) (by decide)) (gs_cons (g_name (vs := [4, 5]) nd rfl (.inl rfl) (by decide)) gs_nil)))) (c_cons (c_if (t_tr (s_callH (Fs 0 (by decide)) tk hr0 (by rfl) T.g0 T.k0 T.b0 (by rfl) (by exact (al1 (al1 al0))) (s_ac (s_v (i := 4) rfl (.inl rfl)) (s_ac (s_v (i := 3) rfl (.inl rfl)) s_an)))) (c_one (c_ret (s_tup (s_ac (s_add (s_v (i := 2) rfl (.inl rfl)) (s_sl (s_v (i := 4) rfl (.inl rfl)) (o_some (s_len (by rfl) B.len_ (s_v (i := 3) rfl (.inl rfl)))) o_none)) (s_ac (s_v (i := 5) rfl (.inl rfl)) s_an))))) c_nil) (c_cons (c_if (t_tr (s_callH (Fs 0 (by decide)) tk hr0 (by rfl) T.g0 T.k0 T.b0 (by rfl) (by exact (al1 (al1 al0))) (s_ac (s_v (i := 3) rfl (.inl rfl)) (s_ac (s_v (i := 4) rfl (.inl rfl)) s_an)))) (c_one (c_ret (s_tup (s_ac (s_v (i := 2) rfl (.inl rfl)) (s_ac (s_add (s_v (i := 5) rfl (.inl rfl)) (s_sl (s_v (i := 3) rfl (.inl rfl)) (o_some (s_len (by rfl) B.len_ (s_v (i := 4) rfl (.inl rfl)))) o_none)) s_an))))) c_nil) (c_one (c_ret s_non))))))
theorem w2 (T : Tb K mg f fd) (B : Bt mg) (C : Ct K mg f) (Fs : ∀ j, j < 61 → FnOk Pg w K mg base (L2.CX Pg w) k (f j) (fd j) (psOf j) (spF (P1 K) K call j (psOf j).length)) (cdv : Value) (A : Around) (outer : List Env) (s : Shared) (H : Hp) (E : XK) (hr : Room (k + 1) (A.deeper (envOfC "all_joined" (defScope (top 4)) s.heap.objs.size (f 2) cdv))) :
    PSs (cxOf (L2.CX Pg w) Pg w K mg base ["effects", "found", "effect"] "all_joined" (defScope (top 4)) (f 2) cdv A outer s H E) (defBody (top 4)) (tS (P1 K) K (fun cls d _ H => E cls d H) (B2 call)) := by
  have hr0 := hr.mono (Nat.le_succ k)
  have hu := Room.h64 hr
  have hu1 := Room.h1 hr
  have nd := sc2.nd
  have hp : PassesOwn (model Pg w) _ (cxOf (L2.CX Pg w) Pg w K mg base ["effects", "found", "effect"] "all_joined" (defScope (top 4)) (f 2) cdv A outer s H E).env (cxOf (L2.CX Pg w) Pg w K mg base ["effects", "found", "effect"] "all_joined" (defScope (top 4)) (f 2) cdv A outer s H E).xe := passes_of rfl
  have tk : Takes (cxOf (L2.CX Pg w) Pg w K mg base ["effects", "found", "effect"] "all_joined" (defScope (top 4)) (f 2) cdv A outer s H E) (fun cls d _ H => E cls d H) := takes_of rfl rfl rfl rfl
  exact (c_cons (c_set (i := 1) nd rfl (.inl rfl) (s_glob (by rfl) C.n_NO_EFFECT)) (c_cons (c_for hp rfl (i_seq (s_v (i := 0) rfl (.inl rfl))) (g_name (vs := [2]) nd rfl (.inl rfl) (by decide)) (c_one (c_set (i := 1) nd rfl (.inl rfl) (s_ite (t_is  (s_v (i := 1) rfl (.inl rfl)) s_non) s_non (s_callH (Fs 1 (by decide)) tk hr0 (by rfl) T.g1 T.k1 T.b1 (by rfl) (by exact (al1 (al1 al0))) (s_ac (s_v (i := 1) rfl (.inl rfl)) (s_ac (s_v (i := 2) rfl (.inl rfl)) s_an))))))) (c_one (c_ret (s_v (i := 1) rfl (.inl rfl))))))
theorem w3 (T : Tb K mg f fd) (B : Bt mg) (C : Ct K mg f) (Fs : ∀ j, j < 61 → FnOk Pg w K mg base (L2.CX Pg w) k (f j) (fd j) (psOf j) (spF (P1 K) K call j (psOf j).length)) (cdv : Value) (A : Around) (outer : List Env) (s : Shared) (H : Hp) (E : XK) (hr : Room (k + 1) (A.deeper (envOfC "extended" (defScope (top 5)) s.heap.objs.size (f 3) cdv))) :
    PSs (cxOf (L2.CX Pg w) Pg w K mg base ["effect", "pile"] "extended" (defScope (top 5)) (f 3) cdv A outer s H E) (defBody (top 5)) (tS (P1 K) K (fun cls d _ H => E cls d H) (B3 call)) := by
  have hr0 := hr.mono (Nat.le_succ k)
  have hu := Room.h64 hr
  have hu1 := Room.h1 hr
  have nd := sc3.nd
  have hp : PassesOwn (model Pg w) _ (cxOf (L2.CX Pg w) Pg w K mg base ["effect", "pile"] "extended" (defScope (top 5)) (f 3) cdv A outer s H E).env (cxOf (L2.CX Pg w) Pg w K mg base ["effect", "pile"] "extended" (defScope (top 5)) (f 3) cdv A outer s H E).xe := passes_of rfl
  have tk : Takes (cxOf (L2.CX Pg w) Pg w K mg base ["effect", "pile"] "extended" (defScope (top 5)) (f 3) cdv A outer s H E) (fun cls d _ H => E cls d H) := takes_of rfl rfl rfl rfl
  exact (c_one (c_ret (s_tup (s_ac (s_add (s_ix hu1 (s_v (i := 0) rfl (.inl rfl)) s_int (fun _ _ => rfl)) (s_v (i := 1) rfl (.inl rfl))) (s_ac (s_add (s_ix hu1 (s_v (i := 0) rfl (.inl rfl)) s_int (fun _ _ => rfl)) (s_v (i := 1) rfl (.inl rfl))) s_an)))))
theorem w4 (T : Tb K mg f fd) (B : Bt mg) (C : Ct K mg f) (Fs : ∀ j, j < 61 → FnOk Pg w K mg base (L2.CX Pg w) k (f j) (fd j) (psOf j) (spF (P1 K) K call j (psOf j).length)) (cdv : Value) (A : Around) (outer : List Env) (s : Shared) (H : Hp) (E : XK) (hr : Room (k + 1) (A.deeper (envOfC "is_extended" (defScope (top 11)) s.heap.objs.size (f 4) cdv))) :
    PSs (cxOf (L2.CX Pg w) Pg w K mg base ["one", "other", "many", "pile"] "is_extended" (defScope (top 11)) (f 4) cdv A outer s H E) (defBody (top 11)) (tS (P1 K) K (fun cls d _ H => E cls d H) (B4 call)) := by
  have hr0 := hr.mono (Nat.le_succ k)
  have hu := Room.h64 hr
  have hu1 := Room.h1 hr
  have nd := sc4.nd
  have hp : PassesOwn (model Pg w) _ (cxOf (L2.CX Pg w) Pg w K mg base ["one", "other", "many", "pile"] "is_extended" (defScope (top 11)) (f 4) cdv A outer s H E).env (cxOf (L2.CX Pg w) Pg w K mg base ["one", "other", "many", "pile"] "is_extended" (defScope (top 11)) (f 4) cdv A outer s H E).xe := passes_of rfl
  have tk : Takes (cxOf (L2.CX Pg w) Pg w K mg base ["one", "other", "many", "pile"] "is_extended" (defScope (top 11)) (f 4) cdv A outer s H E) (fun cls d _ H => E cls d H) := takes_of rfl rfl rfl rfl
  exact (c_cons (c_set (i := 2) nd rfl (.inl rfl) (s_sub (s_len (by rfl) B.len_ (s_ix hu1 (s_v (i := 0) rfl (.inl rfl)) s_int (fun _ _ => rfl))) (s_len (by rfl) B.len_ (s_ix hu1 (s_v (i := 1) rfl (.inl rfl)) s_int (fun _ _ => rfl))))) (c_cons (c_if (w_or (t_lt  (s_v (i := 2) rfl (.inl rfl)) s_int) (w_or1 (t_ne hu (s_sub (s_len (by rfl) B.len_ (s_ix hu1 (s_v (i := 0) rfl (.inl rfl)) s_int (fun _ _ => rfl))) (s_len (by rfl) B.len_ (s_ix hu1 (s_v (i := 1) rfl (.inl rfl)) s_int (fun _ _ => rfl)))) (s_v (i := 2) rfl (.inl rfl))))).pt (c_one (c_ret s_bl)) c_nil) (c_cons (c_set (i := 3) nd rfl (.inl rfl) (s_sl (s_ix hu1 (s_v (i := 0) rfl (.inl rfl)) s_int (fun _ _ => rfl)) (o_some (s_len (by rfl) B.len_ (s_ix hu1 (s_v (i := 1) rfl (.inl rfl)) s_int (fun _ _ => rfl)))) o_none)) (c_one (c_ret (s_eq hu (s_v (i := 0) rfl (.inl rfl)) (s_tup (s_ac (s_add (s_ix hu1 (s_v (i := 1) rfl (.inl rfl)) s_int (fun _ _ => rfl)) (s_v (i := 3) rfl (.inl rfl))) (s_ac (s_add (s_ix hu1 (s_v (i := 1) rfl (.inl rfl)) s_int (fun _ _ => rfl)) (s_v (i := 3) rfl (.inl rfl))) s_an)))))))))
theorem w5 (T : Tb K mg f fd) (B : Bt mg) (C : Ct K mg f) (Fs : ∀ j, j < 61 → FnOk Pg w K mg base (L2.CX Pg w) k (f j) (fd j) (psOf j) (spF (P1 K) K call j (psOf j).length)) (cdv : Value) (A : Around) (outer : List Env) (s : Shared) (H : Hp) (E : XK) (hr : Room (k + 1) (A.deeper (envOfC "are_alike" (defScope (top 12)) s.heap.objs.size (f 5) cdv))) :
    PSs (cxOf (L2.CX Pg w) Pg w K mg base ["one", "other"] "are_alike" (defScope (top 12)) (f 5) cdv A outer s H E) (defBody (top 12)) (tS (P1 K) K (fun cls d _ H => E cls d H) (B5 call)) := by
  have hr0 := hr.mono (Nat.le_succ k)
  have hu := Room.h64 hr
  have hu1 := Room.h1 hr
  have nd := sc5.nd
  have hp : PassesOwn (model Pg w) _ (cxOf (L2.CX Pg w) Pg w K mg base ["one", "other"] "are_alike" (defScope (top 12)) (f 5) cdv A outer s H E).env (cxOf (L2.CX Pg w) Pg w K mg base ["one", "other"] "are_alike" (defScope (top 12)) (f 5) cdv A outer s H E).xe := passes_of rfl
  have tk : Takes (cxOf (L2.CX Pg w) Pg w K mg base ["one", "other"] "are_alike" (defScope (top 12)) (f 5) cdv A outer s H E) (fun cls d _ H => E cls d H) := takes_of rfl rfl rfl rfl
  exact (c_one (c_ret (s_or (s_callH (Fs 4 (by decide)) tk hr0 (by rfl) T.g4 T.k4 T.b4 (by rfl) (by exact (al1 (al1 al0))) (s_ac (s_v (i := 0) rfl (.inl rfl)) (s_ac (s_v (i := 1) rfl (.inl rfl)) s_an))) (s_one (s_callH (Fs 4 (by decide)) tk hr0 (by rfl) T.g4 T.k4 T.b4 (by rfl) (by exact (al1 (al1 al0))) (s_ac (s_v (i := 1) rfl (.inl rfl)) (s_ac (s_v (i := 0) rfl (.inl rfl)) s_an)))))))
theorem w6 (T : Tb K mg f fd) (B : Bt mg) (C : Ct K mg f) (Fs : ∀ j, j < 61 → FnOk Pg w K mg base (L2.CX Pg w) k (f j) (fd j) (psOf j) (spF (P1 K) K call j (psOf j).length)) (cdv : Value) (A : Around) (outer : List Env) (s : Shared) (H : Hp) (E : XK) (hr : Room (k + 1) (A.deeper (envOfC "row_effect" (defScope (top 14)) s.heap.objs.size (f 6) cdv))) :
    PSs (cxOf (L2.CX Pg w) Pg w K mg base ["program", "row", "found", "deed"] "row_effect" (defScope (top 14)) (f 6) cdv A outer s H E) (defBody (top 14)) (tS (P1 K) K (fun cls d _ H => E cls d H) (B6 call)) := by
  have hr0 := hr.mono (Nat.le_succ k)
  have hu := Room.h64 hr
  have hu1 := Room.h1 hr
  have nd := sc6.nd
  have hp : PassesOwn (model Pg w) _ (cxOf (L2.CX Pg w) Pg w K mg base ["program", "row", "found", "deed"] "row_effect" (defScope (top 14)) (f 6) cdv A outer s H E).env (cxOf (L2.CX Pg w) Pg w K mg base ["program", "row", "found", "deed"] "row_effect" (defScope (top 14)) (f 6) cdv A outer s H E).xe := passes_of rfl
  have tk : Takes (cxOf (L2.CX Pg w) Pg w K mg base ["program", "row", "found", "deed"] "row_effect" (defScope (top 14)) (f 6) cdv A outer s H E) (fun cls d _ H => E cls d H) := takes_of rfl rfl rfl rfl
  exact (c_cons (c_set (i := 2) nd rfl (.inl rfl) (s_glob (by rfl) C.n_NO_EFFECT)) (c_cons (c_for hp rfl (i_seq (s_v (i := 1) rfl (.inl rfl))) (g_name (vs := [3]) nd rfl (.inl rfl) (by decide)) (c_one (c_set (i := 2) nd rfl (.inl rfl) (s_ite (t_is  (s_v (i := 2) rfl (.inl rfl)) s_non) s_non (s_callH (Fs 1 (by decide)) tk hr0 (by rfl) T.g1 T.k1 T.b1 (by rfl) (by exact (al1 (al1 al0))) (s_ac (s_v (i := 2) rfl (.inl rfl)) (s_ac (s_sl (s_ix hu1 (s_ix hu1 (s_v (i := 0) rfl (.inl rfl)) s_int (fun _ _ => rfl)) (s_v (i := 3) rfl (.inl rfl)) (fun _ _ => rfl)) (o_some s_int) o_none) s_an))))))) (c_one (c_ret (s_v (i := 2) rfl (.inl rfl))))))
theorem w7 (T : Tb K mg f fd) (B : Bt mg) (C : Ct K mg f) (Fs : ∀ j, j < 61 → FnOk Pg w K mg base (L2.CX Pg w) k (f j) (fd j) (psOf j) (spF (P1 K) K call j (psOf j).length)) (cdv : Value) (A : Around) (outer : List Env) (s : Shared) (H : Hp) (E : XK) (hr : Room (k + 1) (A.deeper (envOfC "is_row_for" (defScope (top 15)) s.heap.objs.size (f 7) cdv))) :
    PSs (cxOf (L2.CX Pg w) Pg w K mg base ["program", "row", "effect", "found"] "is_row_for" (defScope (top 15)) (f 7) cdv A outer s H E) (defBody (top 15)) (tS (P1 K) K (fun cls d _ H => E cls d H) (B7 call)) := by
  have hr0 := hr.mono (Nat.le_succ k)
  have hu := Room.h64 hr
  have hu1 := Room.h1 hr
  have nd := sc7.nd
  have hp : PassesOwn (model Pg w) _ (cxOf (L2.CX Pg w) Pg w K mg base ["program", "row", "effect", "found"] "is_row_for" (defScope (top 15)) (f 7) cdv A outer s H E).env (cxOf (L2.CX Pg w) Pg w K mg base ["program", "row", "effect", "found"] "is_row_for" (defScope (top 15)) (f 7) cdv A outer s H E).xe := passes_of rfl
  have tk : Takes (cxOf (L2.CX Pg w) Pg w K mg base ["program", "row", "effect", "found"] "is_row_for" (defScope (top 15)) (f 7) cdv A outer s H E) (fun cls d _ H => E cls d H) := takes_of rfl rfl rfl rfl
  exact (c_cons (c_set (i := 3) nd rfl (.inl rfl) (s_callH (Fs 6 (by decide)) tk hr0 (by rfl) T.g6 T.k6 T.b6 (by rfl) (by exact (al1 (al1 al0))) (s_ac (s_v (i := 0) rfl (.inl rfl)) (s_ac (s_v (i := 1) rfl (.inl rfl)) s_an)))) (c_one (c_ret (s_and (s_isnt  (s_v (i := 3) rfl (.inl rfl)) s_non) (s_one (s_callH (Fs 4 (by decide)) tk hr0 (by rfl) T.g4 T.k4 T.b4 (by rfl) (by exact (al1 (al1 al0))) (s_ac (s_v (i := 2) rfl (.inl rfl)) (s_ac (s_v (i := 3) rfl (.inl rfl)) s_an))))))))
theorem w8 (T : Tb K mg f fd) (B : Bt mg) (C : Ct K mg f) (Fs : ∀ j, j < 61 → FnOk Pg w K mg base (L2.CX Pg w) k (f j) (fd j) (psOf j) (spF (P1 K) K call j (psOf j).length)) (cdv : Value) (A : Around) (outer : List Env) (s : Shared) (H : Hp) (E : XK) (hr : Room (k + 1) (A.deeper (envOfC "longer_rows" (defScope (top 16)) s.heap.objs.size (f 8) cdv))) :
    PSs (cxOf (L2.CX Pg w) Pg w K mg base ["program", "rows", "found", "row", "effect", "number", "deed", "there"] "longer_rows" (defScope (top 16)) (f 8) cdv A outer s H E) (defBody (top 16)) (tS (P1 K) K (fun cls d _ H => E cls d H) (B8 call)) := by
  have hr0 := hr.mono (Nat.le_succ k)
  have hu := Room.h64 hr
  have hu1 := Room.h1 hr
  have nd := sc8.nd
  have hp : PassesOwn (model Pg w) _ (cxOf (L2.CX Pg w) Pg w K mg base ["program", "rows", "found", "row", "effect", "number", "deed", "there"] "longer_rows" (defScope (top 16)) (f 8) cdv A outer s H E).env (cxOf (L2.CX Pg w) Pg w K mg base ["program", "rows", "found", "row", "effect", "number", "deed", "there"] "longer_rows" (defScope (top 16)) (f 8) cdv A outer s H E).xe := passes_of rfl
  have tk : Takes (cxOf (L2.CX Pg w) Pg w K mg base ["program", "rows", "found", "row", "effect", "number", "deed", "there"] "longer_rows" (defScope (top 16)) (f 8) cdv A outer s H E) (fun cls d _ H => E cls d H) := takes_of rfl rfl rfl rfl
  exact (c_cons (c_set (i := 2) nd rfl (.inl rfl) (s_lst s_an)) (c_cons (c_for hp rfl (i_seq (s_v (i := 1) rfl (.inl rfl))) (g_tup rfl (gs_cons (g_name (vs := [3, 4]) nd rfl (.inl rfl) (by decide)) (gs_cons (g_name (vs := [3, 4]) nd rfl (.inl rfl) (by decide)) gs_nil))) (c_one (c_for hp rfl (i_enum (by rfl) B.enumerate_ (s_ix hu1 (s_v (i := 0) rfl (.inl rfl)) s_int (fun _ _ => rfl))) (g_tup rfl (gs_cons (g_name (vs := [5, 6]) nd rfl (.inl rfl) (by decide)) (gs_cons (g_name (vs := [5, 6]) nd rfl (.inl rfl) (by decide)) gs_nil))) (c_cons (c_set (i := 7) nd rfl (.inl rfl) (s_callH (Fs 1 (by decide)) tk hr0 (by rfl) T.g1 T.k1 T.b1 (by rfl) (by exact (al1 (al1 al0))) (s_ac (s_v (i := 4) rfl (.inl rfl)) (s_ac (s_sl (s_v (i := 6) rfl (.inl rfl)) (o_some s_int) o_none) s_an)))) (c_one (c_if (t_isnt  (s_v (i := 7) rfl (.inl rfl)) s_non) (c_one (c_expr (s_append (s_v (i := 2) rfl (.inl rfl)) (s_ac (s_tup (s_ac (s_add (s_v (i := 3) rfl (.inl rfl)) (s_tup (s_ac (s_v (i := 5) rfl (.inl rfl)) s_an))) (s_ac (s_v (i := 7) rfl (.inl rfl)) s_an))) s_an)))) c_nil)))))) (c_one (c_ret (s_v (i := 2) rfl (.inl rfl))))))
theorem w9 (T : Tb K mg f fd) (B : Bt mg) (C : Ct K mg f) (Fs : ∀ j, j < 61 → FnOk Pg w K mg base (L2.CX Pg w) k (f j) (fd j) (psOf j) (spF (P1 K) K call j (psOf j).length)) (cdv : Value) (A : Around) (outer : List Env) (s : Shared) (H : Hp) (E : XK) (hr : Room (k + 1) (A.deeper (envOfC "shortest_row" (defScope (top 17)) s.heap.objs.size (f 9) cdv))) :
    PSs (cxOf (L2.CX Pg w) Pg w K mg base ["program", "effect", "most", "rows", "lap", "row", "told"] "shortest_row" (defScope (top 17)) (f 9) cdv A outer s H E) (defBody (top 17)) (tS (P1 K) K (fun cls d _ H => E cls d H) (B9 call)) := by
  have hr0 := hr.mono (Nat.le_succ k)
  have hu := Room.h64 hr
  have hu1 := Room.h1 hr
  have nd := sc9.nd
  have hp : PassesOwn (model Pg w) _ (cxOf (L2.CX Pg w) Pg w K mg base ["program", "effect", "most", "rows", "lap", "row", "told"] "shortest_row" (defScope (top 17)) (f 9) cdv A outer s H E).env (cxOf (L2.CX Pg w) Pg w K mg base ["program", "effect", "most", "rows", "lap", "row", "told"] "shortest_row" (defScope (top 17)) (f 9) cdv A outer s H E).xe := passes_of rfl
  have tk : Takes (cxOf (L2.CX Pg w) Pg w K mg base ["program", "effect", "most", "rows", "lap", "row", "told"] "shortest_row" (defScope (top 17)) (f 9) cdv A outer s H E) (fun cls d _ H => E cls d H) := takes_of rfl rfl rfl rfl
  exact (c_cons (c_set (i := 3) nd rfl (.inl rfl) (s_lst (s_ac (s_tup (s_ac (s_tup s_an) (s_ac (s_glob (by rfl) C.n_NO_EFFECT) s_an))) s_an))) (c_cons (c_for hp rfl (i_rng1 (by rfl) B.range_ (s_add (s_v (i := 2) rfl (.inl rfl)) s_int)) (g_name (vs := [4]) nd rfl (.inl rfl) (by decide)) (c_cons (c_for hp rfl (i_seq (s_v (i := 3) rfl (.inl rfl))) (g_tup rfl (gs_cons (g_name (vs := [5, 6]) nd rfl (.inl rfl) (by decide)) (gs_cons (g_name (vs := [5, 6]) nd rfl (.inl rfl) (by decide)) gs_nil))) (c_one (c_if (t_tr (s_callH (Fs 4 (by decide)) tk hr0 (by rfl) T.g4 T.k4 T.b4 (by rfl) (by exact (al1 (al1 al0))) (s_ac (s_v (i := 1) rfl (.inl rfl)) (s_ac (s_v (i := 6) rfl (.inl rfl)) s_an)))) (c_one (c_ret (s_v (i := 5) rfl (.inl rfl)))) c_nil))) (c_one (c_if (t_lt  (s_v (i := 4) rfl (.inl rfl)) (s_v (i := 2) rfl (.inl rfl))) (c_one (c_set (i := 3) nd rfl (.inl rfl) (s_callH (Fs 8 (by decide)) tk hr0 (by rfl) T.g8 T.k8 T.b8 (by rfl) (by exact (al1 (al1 al0))) (s_ac (s_v (i := 0) rfl (.inl rfl)) (s_ac (s_v (i := 3) rfl (.inl rfl)) s_an))))) c_nil)))) (c_one (c_ret s_non))))
theorem w10 (T : Tb K mg f fd) (B : Bt mg) (C : Ct K mg f) (Fs : ∀ j, j < 61 → FnOk Pg w K mg base (L2.CX Pg w) k (f j) (fd j) (psOf j) (spF (P1 K) K call j (psOf j).length)) (cdv : Value) (A : Around) (outer : List Env) (s : Shared) (H : Hp) (E : XK) (hr : Room (k + 1) (A.deeper (envOfC "text_lines" (defScope (top 31)) s.heap.objs.size (f 10) cdv))) :
    PSs (cxOf (L2.CX Pg w) Pg w K mg base ["text"] "text_lines" (defScope (top 31)) (f 10) cdv A outer s H E) (defBody (top 31)) (tS (P1 K) K (fun cls d _ H => E cls d H) (B10 call)) := by
  have hr0 := hr.mono (Nat.le_succ k)
  have hu := Room.h64 hr
  have hu1 := Room.h1 hr
  have nd := sc10.nd
  have hp : PassesOwn (model Pg w) _ (cxOf (L2.CX Pg w) Pg w K mg base ["text"] "text_lines" (defScope (top 31)) (f 10) cdv A outer s H E).env (cxOf (L2.CX Pg w) Pg w K mg base ["text"] "text_lines" (defScope (top 31)) (f 10) cdv A outer s H E).xe := passes_of rfl
  have tk : Takes (cxOf (L2.CX Pg w) Pg w K mg base ["text"] "text_lines" (defScope (top 31)) (f 10) cdv A outer s H E) (fun cls d _ H => E cls d H) := takes_of rfl rfl rfl rfl
  exact (c_one (c_ret (s_ite (t_ne hu (s_v (i := 0) rfl (.inl rfl)) (s_str (by decide +kernel) (by decide))) (s_split (s_v (i := 0) rfl (.inl rfl)) (s_str (by decide +kernel) (by decide))) (s_lst s_an))))
theorem w11 (T : Tb K mg f fd) (B : Bt mg) (C : Ct K mg f) (Fs : ∀ j, j < 61 → FnOk Pg w K mg base (L2.CX Pg w) k (f j) (fd j) (psOf j) (spF (P1 K) K call j (psOf j).length)) (cdv : Value) (A : Around) (outer : List Env) (s : Shared) (H : Hp) (E : XK) (hr : Room (k + 1) (A.deeper (envOfC "behind_lines" (defScope (top 32)) s.heap.objs.size (f 11) cdv))) :
    PSs (cxOf (L2.CX Pg w) Pg w K mg base ["text"] "behind_lines" (defScope (top 32)) (f 11) cdv A outer s H E) (defBody (top 32)) (tS (P1 K) K (fun cls d _ H => E cls d H) (B11 call)) := by
  have hr0 := hr.mono (Nat.le_succ k)
  have hu := Room.h64 hr
  have hu1 := Room.h1 hr
  have nd := sc11.nd
  have hp : PassesOwn (model Pg w) _ (cxOf (L2.CX Pg w) Pg w K mg base ["text"] "behind_lines" (defScope (top 32)) (f 11) cdv A outer s H E).env (cxOf (L2.CX Pg w) Pg w K mg base ["text"] "behind_lines" (defScope (top 32)) (f 11) cdv A outer s H E).xe := passes_of rfl
  have tk : Takes (cxOf (L2.CX Pg w) Pg w K mg base ["text"] "behind_lines" (defScope (top 32)) (f 11) cdv A outer s H E) (fun cls d _ H => E cls d H) := takes_of rfl rfl rfl rfl
  exact (c_one (c_ret (s_add (s_len (by rfl) B.len_ (s_callH (Fs 10 (by decide)) tk hr0 (by rfl) T.g10 T.k10 T.b10 (by rfl) (by exact (al1 al0)) (s_ac (s_v (i := 0) rfl (.inl rfl)) s_an))) s_int)))
theorem w12 (T : Tb K mg f fd) (B : Bt mg) (C : Ct K mg f) (Fs : ∀ j, j < 61 → FnOk Pg w K mg base (L2.CX Pg w) k (f j) (fd j) (psOf j) (spF (P1 K) K call j (psOf j).length)) (cdv : Value) (A : Around) (outer : List Env) (s : Shared) (H : Hp) (E : XK) (hr : Room (k + 1) (A.deeper (envOfC "end_of" (defScope (top 35)) s.heap.objs.size (f 12) cdv))) :
    PSs (cxOf (L2.CX Pg w) Pg w K mg base ["line", "place", "signs"] "end_of" (defScope (top 35)) (f 12) cdv A outer s H E) (defBody (top 35)) (tS (P1 K) K (fun cls d _ H => E cls d H) (B12 call)) := by
  have hr0 := hr.mono (Nat.le_succ k)
  have hu := Room.h64 hr
  have hu1 := Room.h1 hr
  have nd := sc12.nd
  have hp : PassesOwn (model Pg w) _ (cxOf (L2.CX Pg w) Pg w K mg base ["line", "place", "signs"] "end_of" (defScope (top 35)) (f 12) cdv A outer s H E).env (cxOf (L2.CX Pg w) Pg w K mg base ["line", "place", "signs"] "end_of" (defScope (top 35)) (f 12) cdv A outer s H E).xe := passes_of rfl
  have tk : Takes (cxOf (L2.CX Pg w) Pg w K mg base ["line", "place", "signs"] "end_of" (defScope (top 35)) (f 12) cdv A outer s H E) (fun cls d _ H => E cls d H) := takes_of rfl rfl rfl rfl
  exact (c_cons (c_while hp (w_and (t_lt  (s_v (i := 1) rfl (.inl rfl)) (s_len (by rfl) B.len_ (s_v (i := 0) rfl (.inl rfl)))) (w_and1 (t_in hu1 (s_ix hu1 (s_v (i := 0) rfl (.inl rfl)) (s_v (i := 1) rfl (.inl rfl)) (fun _ _ => rfl)) (s_v (i := 2) rfl (.inl rfl)) (by rfl)))).pt (c_one (c_augAdd (i := 1) nd rfl (.inl rfl) s_int))) (c_one (c_ret (s_v (i := 1) rfl (.inl rfl)))))
theorem w13 (T : Tb K mg f fd) (B : Bt mg) (C : Ct K mg f) (Fs : ∀ j, j < 61 → FnOk Pg w K mg base (L2.CX Pg w) k (f j) (fd j) (psOf j) (spF (P1 K) K call j (psOf j).length)) (cdv : Value) (A : Around) (outer : List Env) (s : Shared) (H : Hp) (E : XK) (hr : Room (k + 1) (A.deeper (envOfC "token_at" (defScope (top 36)) s.heap.objs.size (f 13) cdv))) :
    PSs (cxOf (L2.CX Pg w) Pg w K mg base ["number", "line", "place", "kind", "end"] "token_at" (defScope (top 36)) (f 13) cdv A outer s H E) (defBody (top 36)) (tS (P1 K) K (fun cls d _ H => E cls d H) (B13 call)) := by
  have hr0 := hr.mono (Nat.le_succ k)
  have hu := Room.h64 hr
  have hu1 := Room.h1 hr
  have nd := sc13.nd
  have hp : PassesOwn (model Pg w) _ (cxOf (L2.CX Pg w) Pg w K mg base ["number", "line", "place", "kind", "end"] "token_at" (defScope (top 36)) (f 13) cdv A outer s H E).env (cxOf (L2.CX Pg w) Pg w K mg base ["number", "line", "place", "kind", "end"] "token_at" (defScope (top 36)) (f 13) cdv A outer s H E).xe := passes_of rfl
  have tk : Takes (cxOf (L2.CX Pg w) Pg w K mg base ["number", "line", "place", "kind", "end"] "token_at" (defScope (top 36)) (f 13) cdv A outer s H E) (fun cls d _ H => E cls d H) := takes_of rfl rfl rfl rfl
  exact (c_cons (c_if (t_in hu1 (s_ix hu1 (s_v (i := 1) rfl (.inl rfl)) (s_v (i := 2) rfl (.inl rfl)) (fun _ _ => rfl)) (s_glob (by rfl) C.n_SMALL_LETTERS) (by rfl)) (c_cons (c_set (i := 3) nd rfl (.inl rfl) (s_str (by decide +kernel) (by decide))) (c_one (c_set (i := 4) nd rfl (.inl rfl) (s_callH (Fs 12 (by decide)) tk hr0 (by rfl) T.g12 T.k12 T.b12 (by rfl) (by exact (al1 (al1 (al1 al0)))) (s_ac (s_v (i := 1) rfl (.inl rfl)) (s_ac (s_v (i := 2) rfl (.inl rfl)) (s_ac (s_add (s_glob (by rfl) C.n_SMALL_LETTERS) (s_glob (by rfl) C.n_TEN_FIGURES)) s_an))))))) (c_one (c_if (t_in hu1 (s_ix hu1 (s_v (i := 1) rfl (.inl rfl)) (s_v (i := 2) rfl (.inl rfl)) (fun _ _ => rfl)) (s_glob (by rfl) C.n_TEN_FIGURES) (by rfl)) (c_cons (c_set (i := 3) nd rfl (.inl rfl) (s_str (by decide +kernel) (by decide))) (c_one (c_set (i := 4) nd rfl (.inl rfl) (s_callH (Fs 12 (by decide)) tk hr0 (by rfl) T.g12 T.k12 T.b12 (by rfl) (by exact (al1 (al1 (al1 al0)))) (s_ac (s_v (i := 1) rfl (.inl rfl)) (s_ac (s_v (i := 2) rfl (.inl rfl)) (s_ac (s_glob (by rfl) C.n_TEN_FIGURES) s_an))))))) (c_one (c_if (t_in hu1 (s_ix hu1 (s_v (i := 1) rfl (.inl rfl)) (s_v (i := 2) rfl (.inl rfl)) (fun _ _ => rfl)) (s_glob (by rfl) C.n_SIGNS) (by rfl)) (c_cons (c_set (i := 3) nd rfl (.inl rfl) (s_str (by decide +kernel) (by decide))) (c_one (c_set (i := 4) nd rfl (.inl rfl) (s_add (s_v (i := 2) rfl (.inl rfl)) s_int)))) (c_one c_bad)))))) (c_cons (c_if (t_gt  (s_sub (s_v (i := 4) rfl (.inl rfl)) (s_v (i := 2) rfl (.inl rfl))) (s_glob (by rfl) C.n_WORD_MOST)) (c_one c_bad) c_nil) (c_cons (c_if (w_and (t_eq hu (s_v (i := 3) rfl (.inl rfl)) (s_str (by decide +kernel) (by decide))) (w_and (t_gt  (s_sub (s_v (i := 4) rfl (.inl rfl)) (s_v (i := 2) rfl (.inl rfl))) s_int) (w_and1 (t_eq hu (s_ix hu1 (s_v (i := 1) rfl (.inl rfl)) (s_v (i := 2) rfl (.inl rfl)) (fun _ _ => rfl)) (s_str (by decide +kernel) (by decide)))))).pt (c_one c_bad) c_nil) (c_one (c_ret (s_tup (s_ac (s_v (i := 3) rfl (.inl rfl)) (s_ac (s_sl (s_v (i := 1) rfl (.inl rfl)) (o_some (s_v (i := 2) rfl (.inl rfl))) (o_some (s_v (i := 4) rfl (.inl rfl)))) (s_ac (s_v (i := 0) rfl (.inl rfl)) (s_ac (s_add (s_v (i := 2) rfl (.inl rfl)) s_int) s_an))))))))))
theorem w14 (T : Tb K mg f fd) (B : Bt mg) (C : Ct K mg f) (Fs : ∀ j, j < 61 → FnOk Pg w K mg base (L2.CX Pg w) k (f j) (fd j) (psOf j) (spF (P1 K) K call j (psOf j).length)) (cdv : Value) (A : Around) (outer : List Env) (s : Shared) (H : Hp) (E : XK) (hr : Room (k + 1) (A.deeper (envOfC "line_tokens" (defScope (top 37)) s.heap.objs.size (f 14) cdv))) :
    PSs (cxOf (L2.CX Pg w) Pg w K mg base ["number", "line", "found", "place", "token"] "line_tokens" (defScope (top 37)) (f 14) cdv A outer s H E) (defBody (top 37)) (tS (P1 K) K (fun cls d _ H => E cls d H) (B14 call)) := by
  have hr0 := hr.mono (Nat.le_succ k)
  have hu := Room.h64 hr
  have hu1 := Room.h1 hr
  have nd := sc14.nd
  have hp : PassesOwn (model Pg w) _ (cxOf (L2.CX Pg w) Pg w K mg base ["number", "line", "found", "place", "token"] "line_tokens" (defScope (top 37)) (f 14) cdv A outer s H E).env (cxOf (L2.CX Pg w) Pg w K mg base ["number", "line", "found", "place", "token"] "line_tokens" (defScope (top 37)) (f 14) cdv A outer s H E).xe := passes_of rfl
  have tk : Takes (cxOf (L2.CX Pg w) Pg w K mg base ["number", "line", "found", "place", "token"] "line_tokens" (defScope (top 37)) (f 14) cdv A outer s H E) (fun cls d _ H => E cls d H) := takes_of rfl rfl rfl rfl
  exact (c_cons (c_set (i := 2) nd rfl (.inl rfl) (s_lst s_an)) (c_cons (c_set (i := 3) nd rfl (.inl rfl) (s_callH (Fs 12 (by decide)) tk hr0 (by rfl) T.g12 T.k12 T.b12 (by rfl) (by exact (al1 (al1 (al1 al0)))) (s_ac (s_v (i := 1) rfl (.inl rfl)) (s_ac s_int (s_ac (s_str (by decide +kernel) (by decide)) s_an))))) (c_cons (c_while hp (w_and (t_lt  (s_v (i := 3) rfl (.inl rfl)) (s_len (by rfl) B.len_ (s_v (i := 1) rfl (.inl rfl)))) (w_and1 (t_ne hu (s_ix hu1 (s_v (i := 1) rfl (.inl rfl)) (s_v (i := 3) rfl (.inl rfl)) (fun _ _ => rfl)) (s_str (by decide +kernel) (by decide))))).pt (c_cons (c_set (i := 4) nd rfl (.inl rfl) (s_callH (Fs 13 (by decide)) tk hr0 (by rfl) T.g13 T.k13 T.b13 (by rfl) (by exact (al1 (al1 (al1 al0)))) (s_ac (s_v (i := 0) rfl (.inl rfl)) (s_ac (s_v (i := 1) rfl (.inl rfl)) (s_ac (s_v (i := 3) rfl (.inl rfl)) s_an))))) (c_cons (c_expr (s_append (s_v (i := 2) rfl (.inl rfl)) (s_ac (s_v (i := 4) rfl (.inl rfl)) s_an))) (c_one (c_set (i := 3) nd rfl (.inl rfl) (s_callH (Fs 12 (by decide)) tk hr0 (by rfl) T.g12 T.k12 T.b12 (by rfl) (by exact (al1 (al1 (al1 al0)))) (s_ac (s_v (i := 1) rfl (.inl rfl)) (s_ac (s_add (s_v (i := 3) rfl (.inl rfl)) (s_len (by rfl) B.len_ (s_ix hu1 (s_v (i := 4) rfl (.inl rfl)) s_int (fun _ _ => rfl)))) (s_ac (s_str (by decide +kernel) (by decide)) s_an))))))))) (c_one (c_ret (s_v (i := 2) rfl (.inl rfl)))))))
theorem w15 (T : Tb K mg f fd) (B : Bt mg) (C : Ct K mg f) (Fs : ∀ j, j < 61 → FnOk Pg w K mg base (L2.CX Pg w) k (f j) (fd j) (psOf j) (spF (P1 K) K call j (psOf j).length)) (cdv : Value) (A : Around) (outer : List Env) (s : Shared) (H : Hp) (E : XK) (hr : Room (k + 1) (A.deeper (envOfC "tokens_of" (defScope (top 38)) s.heap.objs.size (f 15) cdv))) :
    PSs (cxOf (L2.CX Pg w) Pg w K mg base ["text", "found", "at", "line"] "tokens_of" (defScope (top 38)) (f 15) cdv A outer s H E) (defBody (top 38)) (tS (P1 K) K (fun cls d _ H => E cls d H) (B15 call)) := by
  have hr0 := hr.mono (Nat.le_succ k)
  have hu := Room.h64 hr
  have hu1 := Room.h1 hr
  have nd := sc15.nd
  have hp : PassesOwn (model Pg w) _ (cxOf (L2.CX Pg w) Pg w K mg base ["text", "found", "at", "line"] "tokens_of" (defScope (top 38)) (f 15) cdv A outer s H E).env (cxOf (L2.CX Pg w) Pg w K mg base ["text", "found", "at", "line"] "tokens_of" (defScope (top 38)) (f 15) cdv A outer s H E).xe := passes_of rfl
  have tk : Takes (cxOf (L2.CX Pg w) Pg w K mg base ["text", "found", "at", "line"] "tokens_of" (defScope (top 38)) (f 15) cdv A outer s H E) (fun cls d _ H => E cls d H) := takes_of rfl rfl rfl rfl
  exact (c_cons (c_set (i := 1) nd rfl (.inl rfl) (s_lst s_an)) (c_cons (c_for hp rfl (i_enum (by rfl) B.enumerate_ (s_split (s_v (i := 0) rfl (.inl rfl)) (s_str (by decide +kernel) (by decide)))) (g_tup rfl (gs_cons (g_name (vs := [2, 3]) nd rfl (.inl rfl) (by decide)) (gs_cons (g_name (vs := [2, 3]) nd rfl (.inl rfl) (by decide)) gs_nil))) (c_one (c_set (i := 1) nd rfl (.inl rfl) (s_add (s_v (i := 1) rfl (.inl rfl)) (s_callH (Fs 14 (by decide)) tk hr0 (by rfl) T.g14 T.k14 T.b14 (by rfl) (by exact (al1 (al1 al0))) (s_ac (s_add (s_v (i := 2) rfl (.inl rfl)) s_int) (s_ac (s_v (i := 3) rfl (.inl rfl)) s_an))))))) (c_one (c_ret (s_tupC (by rfl) B.tuple_ (s_v (i := 1) rfl (.inl rfl)))))))
theorem w16 (T : Tb K mg f fd) (B : Bt mg) (C : Ct K mg f) (Fs : ∀ j, j < 61 → FnOk Pg w K mg base (L2.CX Pg w) k (f j) (fd j) (psOf j) (spF (P1 K) K call j (psOf j).length)) (cdv : Value) (A : Around) (outer : List Env) (s : Shared) (H : Hp) (E : XK) (hr : Room (k + 1) (A.deeper (envOfC "Reader.__init__" (defScope (topC 40 0)) s.heap.objs.size (f 16) cdv))) :
    PSs (cxOf (L2.CX Pg w) Pg w K mg base ["self", "text"] "Reader.__init__" (defScope (topC 40 0)) (f 16) cdv A outer s H E) (defBody (topC 40 0)) (tS (P1 K) K (fun cls d _ H => E cls d H) (B16 call)) := by
  have hr0 := hr.mono (Nat.le_succ k)
  have hu := Room.h64 hr
  have hu1 := Room.h1 hr
  have nd := sc16.nd
  have hp : PassesOwn (model Pg w) _ (cxOf (L2.CX Pg w) Pg w K mg base ["self", "text"] "Reader.__init__" (defScope (topC 40 0)) (f 16) cdv A outer s H E).env (cxOf (L2.CX Pg w) Pg w K mg base ["self", "text"] "Reader.__init__" (defScope (topC 40 0)) (f 16) cdv A outer s H E).xe := passes_of rfl
  have tk : Takes (cxOf (L2.CX Pg w) Pg w K mg base ["self", "text"] "Reader.__init__" (defScope (topC 40 0)) (f 16) cdv A outer s H E) (fun cls d _ H => E cls d H) := takes_of rfl rfl rfl rfl
  exact (c_cons (c_fld (n := 15) (P1inj _) rfl C.a15 (s_v (i := 0) rfl (.inl rfl)) (s_callH (Fs 15 (by decide)) tk hr0 (by rfl) T.g15 T.k15 T.b15 (by rfl) (by exact (al1 al0)) (s_ac (s_v (i := 1) rfl (.inl rfl)) s_an))) (c_cons (c_fld (n := 6) (P1inj _) rfl C.a6 (s_v (i := 0) rfl (.inl rfl)) (s_callH (Fs 11 (by decide)) tk hr0 (by rfl) T.g11 T.k11 T.b11 (by rfl) (by exact (al1 al0)) (s_ac (s_v (i := 1) rfl (.inl rfl)) s_an))) (c_one (c_fld (n := 11) (P1inj _) rfl C.a11 (s_v (i := 0) rfl (.inl rfl)) s_int))))
theorem w17 (T : Tb K mg f fd) (B : Bt mg) (C : Ct K mg f) (Fs : ∀ j, j < 61 → FnOk Pg w K mg base (L2.CX Pg w) k (f j) (fd j) (psOf j) (spF (P1 K) K call j (psOf j).length)) (cdv : Value) (A : Around) (outer : List Env) (s : Shared) (H : Hp) (E : XK) (hr : Room (k + 1) (A.deeper (envOfC "Reader.refuse" (defScope (topC 40 1)) s.heap.objs.size (f 17) cdv))) :
    PSs (cxOf (L2.CX Pg w) Pg w K mg base ["self", "word", "line", "place"] "Reader.refuse" (defScope (topC 40 1)) (f 17) cdv A outer s H E) (defBody (topC 40 1)) (tS (P1 K) K (fun cls d _ H => E cls d H) (B17 call)) := by
  have hr0 := hr.mono (Nat.le_succ k)
  have hu := Room.h64 hr
  have hu1 := Room.h1 hr
  have nd := sc17.nd
  have hp : PassesOwn (model Pg w) _ (cxOf (L2.CX Pg w) Pg w K mg base ["self", "word", "line", "place"] "Reader.refuse" (defScope (topC 40 1)) (f 17) cdv A outer s H E).env (cxOf (L2.CX Pg w) Pg w K mg base ["self", "word", "line", "place"] "Reader.refuse" (defScope (topC 40 1)) (f 17) cdv A outer s H E).xe := passes_of rfl
  have tk : Takes (cxOf (L2.CX Pg w) Pg w K mg base ["self", "word", "line", "place"] "Reader.refuse" (defScope (topC 40 1)) (f 17) cdv A outer s H E) (fun cls d _ H => E cls d H) := takes_of rfl rfl rfl rfl
  exact (c_cons (c_unp (s_ownM0 (c := 0) (mn := 2) (P1inj _) rfl C.c0 C.m18 (Fs 18 (by decide)) tk hr0 T.b18 (by rfl) (s_v (i := 0) rfl (.inl rfl))) (g_tup rfl (gs_cons (g_name (vs := [2, 3]) nd rfl (.inl rfl) (by decide)) (gs_cons (g_name (vs := [2, 3]) nd rfl (.inl rfl) (by decide)) gs_nil)))) (c_one c_bad))
theorem w18 (T : Tb K mg f fd) (B : Bt mg) (C : Ct K mg f) (Fs : ∀ j, j < 61 → FnOk Pg w K mg base (L2.CX Pg w) k (f j) (fd j) (psOf j) (spF (P1 K) K call j (psOf j).length)) (cdv : Value) (A : Around) (outer : List Env) (s : Shared) (H : Hp) (E : XK) (hr : Room (k + 1) (A.deeper (envOfC "Reader.here" (defScope (topC 40 2)) s.heap.objs.size (f 18) cdv))) :
    PSs (cxOf (L2.CX Pg w) Pg w K mg base ["self"] "Reader.here" (defScope (topC 40 2)) (f 18) cdv A outer s H E) (defBody (topC 40 2)) (tS (P1 K) K (fun cls d _ H => E cls d H) (B18 call)) := by
  have hr0 := hr.mono (Nat.le_succ k)
  have hu := Room.h64 hr
  have hu1 := Room.h1 hr
  have nd := sc18.nd
  have hp : PassesOwn (model Pg w) _ (cxOf (L2.CX Pg w) Pg w K mg base ["self"] "Reader.here" (defScope (topC 40 2)) (f 18) cdv A outer s H E).env (cxOf (L2.CX Pg w) Pg w K mg base ["self"] "Reader.here" (defScope (topC 40 2)) (f 18) cdv A outer s H E).xe := passes_of rfl
  have tk : Takes (cxOf (L2.CX Pg w) Pg w K mg base ["self"] "Reader.here" (defScope (topC 40 2)) (f 18) cdv A outer s H E) (fun cls d _ H => E cls d H) := takes_of rfl rfl rfl rfl
  exact (c_cons (c_if (t_lt  (s_fld (n := 11) (P1inj _) rfl C.a11 (s_v (i := 0) rfl (.inl rfl))) (s_len (by rfl) B.len_ (s_fld (n := 15) (P1inj _) rfl C.a15 (s_v (i := 0) rfl (.inl rfl))))) (c_one (c_ret (s_sl (s_ix hu1 (s_fld (n := 15) (P1inj _) rfl C.a15 (s_v (i := 0) rfl (.inl rfl))) (s_fld (n := 11) (P1inj _) rfl C.a11 (s_v (i := 0) rfl (.inl rfl))) (fun _ _ => rfl)) (o_some s_int) o_none))) c_nil) (c_one (c_ret (s_tup (s_ac (s_fld (n := 6) (P1inj _) rfl C.a6 (s_v (i := 0) rfl (.inl rfl))) (s_ac s_int s_an))))))
theorem w19 (T : Tb K mg f fd) (B : Bt mg) (C : Ct K mg f) (Fs : ∀ j, j < 61 → FnOk Pg w K mg base (L2.CX Pg w) k (f j) (fd j) (psOf j) (spF (P1 K) K call j (psOf j).length)) (cdv : Value) (A : Around) (outer : List Env) (s : Shared) (H : Hp) (E : XK) (hr : Room (k + 1) (A.deeper (envOfC "Reader.is_token" (defScope (topC 40 3)) s.heap.objs.size (f 19) cdv))) :
    PSs (cxOf (L2.CX Pg w) Pg w K mg base ["self", "kind", "word"] "Reader.is_token" (defScope (topC 40 3)) (f 19) cdv A outer s H E) (defBody (topC 40 3)) (tS (P1 K) K (fun cls d _ H => E cls d H) (B19 call)) := by
  have hr0 := hr.mono (Nat.le_succ k)
  have hu := Room.h64 hr
  have hu1 := Room.h1 hr
  have nd := sc19.nd
  have hp : PassesOwn (model Pg w) _ (cxOf (L2.CX Pg w) Pg w K mg base ["self", "kind", "word"] "Reader.is_token" (defScope (topC 40 3)) (f 19) cdv A outer s H E).env (cxOf (L2.CX Pg w) Pg w K mg base ["self", "kind", "word"] "Reader.is_token" (defScope (topC 40 3)) (f 19) cdv A outer s H E).xe := passes_of rfl
  have tk : Takes (cxOf (L2.CX Pg w) Pg w K mg base ["self", "kind", "word"] "Reader.is_token" (defScope (topC 40 3)) (f 19) cdv A outer s H E) (fun cls d _ H => E cls d H) := takes_of rfl rfl rfl rfl
  exact (c_one (c_ret (s_and (s_lt  (s_fld (n := 11) (P1inj _) rfl C.a11 (s_v (i := 0) rfl (.inl rfl))) (s_len (by rfl) B.len_ (s_fld (n := 15) (P1inj _) rfl C.a15 (s_v (i := 0) rfl (.inl rfl))))) (s_one (s_eq hu (s_sl (s_ix hu1 (s_fld (n := 15) (P1inj _) rfl C.a15 (s_v (i := 0) rfl (.inl rfl))) (s_fld (n := 11) (P1inj _) rfl C.a11 (s_v (i := 0) rfl (.inl rfl))) (fun _ _ => rfl)) o_none (o_some s_int)) (s_tup (s_ac (s_v (i := 1) rfl (.inl rfl)) (s_ac (s_v (i := 2) rfl (.inl rfl)) s_an))))))))
theorem w20 (T : Tb K mg f fd) (B : Bt mg) (C : Ct K mg f) (Fs : ∀ j, j < 61 → FnOk Pg w K mg base (L2.CX Pg w) k (f j) (fd j) (psOf j) (spF (P1 K) K call j (psOf j).length)) (cdv : Value) (A : Around) (outer : List Env) (s : Shared) (H : Hp) (E : XK) (hr : Room (k + 1) (A.deeper (envOfC "Reader.is_name" (defScope (topC 40 4)) s.heap.objs.size (f 20) cdv))) :
    PSs (cxOf (L2.CX Pg w) Pg w K mg base ["self"] "Reader.is_name" (defScope (topC 40 4)) (f 20) cdv A outer s H E) (defBody (topC 40 4)) (tS (P1 K) K (fun cls d _ H => E cls d H) (B20 call)) := by
  have hr0 := hr.mono (Nat.le_succ k)
  have hu := Room.h64 hr
  have hu1 := Room.h1 hr
  have nd := sc20.nd
  have hp : PassesOwn (model Pg w) _ (cxOf (L2.CX Pg w) Pg w K mg base ["self"] "Reader.is_name" (defScope (topC 40 4)) (f 20) cdv A outer s H E).env (cxOf (L2.CX Pg w) Pg w K mg base ["self"] "Reader.is_name" (defScope (topC 40 4)) (f 20) cdv A outer s H E).xe := passes_of rfl
  have tk : Takes (cxOf (L2.CX Pg w) Pg w K mg base ["self"] "Reader.is_name" (defScope (topC 40 4)) (f 20) cdv A outer s H E) (fun cls d _ H => E cls d H) := takes_of rfl rfl rfl rfl
  exact (c_cons (c_if (w_or (t_eq hu (s_fld (n := 11) (P1inj _) rfl C.a11 (s_v (i := 0) rfl (.inl rfl))) (s_len (by rfl) B.len_ (s_fld (n := 15) (P1inj _) rfl C.a15 (s_v (i := 0) rfl (.inl rfl))))) (w_or1 (t_ne hu (s_ix hu1 (s_ix hu1 (s_fld (n := 15) (P1inj _) rfl C.a15 (s_v (i := 0) rfl (.inl rfl))) (s_fld (n := 11) (P1inj _) rfl C.a11 (s_v (i := 0) rfl (.inl rfl))) (fun _ _ => rfl)) s_int (fun _ _ => rfl)) (s_str (by decide +kernel) (by decide))))).pt (c_one (c_ret s_bl)) c_nil) (c_one (c_ret (s_notin hu1 (s_ix hu1 (s_ix hu1 (s_fld (n := 15) (P1inj _) rfl C.a15 (s_v (i := 0) rfl (.inl rfl))) (s_fld (n := 11) (P1inj _) rfl C.a11 (s_v (i := 0) rfl (.inl rfl))) (fun _ _ => rfl)) s_int (fun _ _ => rfl)) (s_glob (by rfl) C.n_KEPT_WORDS) (by rfl)))))
theorem w21 (T : Tb K mg f fd) (B : Bt mg) (C : Ct K mg f) (Fs : ∀ j, j < 61 → FnOk Pg w K mg base (L2.CX Pg w) k (f j) (fd j) (psOf j) (spF (P1 K) K call j (psOf j).length)) (cdv : Value) (A : Around) (outer : List Env) (s : Shared) (H : Hp) (E : XK) (hr : Room (k + 1) (A.deeper (envOfC "Reader.take" (defScope (topC 40 5)) s.heap.objs.size (f 21) cdv))) :
    PSs (cxOf (L2.CX Pg w) Pg w K mg base ["self", "where"] "Reader.take" (defScope (topC 40 5)) (f 21) cdv A outer s H E) (defBody (topC 40 5)) (tS (P1 K) K (fun cls d _ H => E cls d H) (B21 call)) := by
  have hr0 := hr.mono (Nat.le_succ k)
  have hu := Room.h64 hr
  have hu1 := Room.h1 hr
  have nd := sc21.nd
  have hp : PassesOwn (model Pg w) _ (cxOf (L2.CX Pg w) Pg w K mg base ["self", "where"] "Reader.take" (defScope (topC 40 5)) (f 21) cdv A outer s H E).env (cxOf (L2.CX Pg w) Pg w K mg base ["self", "where"] "Reader.take" (defScope (topC 40 5)) (f 21) cdv A outer s H E).xe := passes_of rfl
  have tk : Takes (cxOf (L2.CX Pg w) Pg w K mg base ["self", "where"] "Reader.take" (defScope (topC 40 5)) (f 21) cdv A outer s H E) (fun cls d _ H => E cls d H) := takes_of rfl rfl rfl rfl
  exact (c_cons (c_set (i := 1) nd rfl (.inl rfl) (s_ownM0 (c := 0) (mn := 2) (P1inj _) rfl C.c0 C.m18 (Fs 18 (by decide)) tk hr0 T.b18 (by rfl) (s_v (i := 0) rfl (.inl rfl)))) (c_cons (c_fldAdd (n := 11) (P1inj _) rfl C.a11 (s_v (i := 0) rfl (.inl rfl)) s_int) (c_one (c_ret (s_tup (s_ac (s_ix hu1 (s_ix hu1 (s_fld (n := 15) (P1inj _) rfl C.a15 (s_v (i := 0) rfl (.inl rfl))) (s_sub (s_fld (n := 11) (P1inj _) rfl C.a11 (s_v (i := 0) rfl (.inl rfl))) s_int) (fun _ _ => rfl)) s_int (fun _ _ => rfl)) (s_ac (s_v (i := 1) rfl (.inl rfl)) s_an)))))))
theorem w22 (T : Tb K mg f fd) (B : Bt mg) (C : Ct K mg f) (Fs : ∀ j, j < 61 → FnOk Pg w K mg base (L2.CX Pg w) k (f j) (fd j) (psOf j) (spF (P1 K) K call j (psOf j).length)) (cdv : Value) (A : Around) (outer : List Env) (s : Shared) (H : Hp) (E : XK) (hr : Room (k + 1) (A.deeper (envOfC "Reader.name" (defScope (topC 40 6)) s.heap.objs.size (f 22) cdv))) :
    PSs (cxOf (L2.CX Pg w) Pg w K mg base ["self"] "Reader.name" (defScope (topC 40 6)) (f 22) cdv A outer s H E) (defBody (topC 40 6)) (tS (P1 K) K (fun cls d _ H => E cls d H) (B22 call)) := by
  have hr0 := hr.mono (Nat.le_succ k)
  have hu := Room.h64 hr
  have hu1 := Room.h1 hr
  have nd := sc22.nd
  have hp : PassesOwn (model Pg w) _ (cxOf (L2.CX Pg w) Pg w K mg base ["self"] "Reader.name" (defScope (topC 40 6)) (f 22) cdv A outer s H E).env (cxOf (L2.CX Pg w) Pg w K mg base ["self"] "Reader.name" (defScope (topC 40 6)) (f 22) cdv A outer s H E).xe := passes_of rfl
  have tk : Takes (cxOf (L2.CX Pg w) Pg w K mg base ["self"] "Reader.name" (defScope (topC 40 6)) (f 22) cdv A outer s H E) (fun cls d _ H => E cls d H) := takes_of rfl rfl rfl rfl
  exact (c_cons (c_if (t_not (t_tr (s_ownM0 (c := 0) (mn := 3) (P1inj _) rfl C.c0 C.m20 (Fs 20 (by decide)) tk hr0 T.b20 (by rfl) (s_v (i := 0) rfl (.inl rfl))))) (c_one (c_expr (s_ownM (c := 0) (mn := 12) (P1inj _) rfl C.c0 C.m17 (Fs 17 (by decide)) tk hr0 T.b17 (by rfl) (by exact (al1 al0)) (s_v (i := 0) rfl (.inl rfl)) (s_ac (s_str (by decide +kernel) (by decide)) s_an)))) c_nil) (c_one (c_ret (s_ownM0 (c := 0) (mn := 14) (P1inj _) rfl C.c0 C.m21 (Fs 21 (by decide)) tk hr0 T.b21 (by rfl) (s_v (i := 0) rfl (.inl rfl))))))
theorem w23 (T : Tb K mg f fd) (B : Bt mg) (C : Ct K mg f) (Fs : ∀ j, j < 61 → FnOk Pg w K mg base (L2.CX Pg w) k (f j) (fd j) (psOf j) (spF (P1 K) K call j (psOf j).length)) (cdv : Value) (A : Around) (outer : List Env) (s : Shared) (H : Hp) (E : XK) (hr : Room (k + 1) (A.deeper (envOfC "Reader.names" (defScope (topC 40 7)) s.heap.objs.size (f 23) cdv))) :
    PSs (cxOf (L2.CX Pg w) Pg w K mg base ["self", "found"] "Reader.names" (defScope (topC 40 7)) (f 23) cdv A outer s H E) (defBody (topC 40 7)) (tS (P1 K) K (fun cls d _ H => E cls d H) (B23 call)) := by
  have hr0 := hr.mono (Nat.le_succ k)
  have hu := Room.h64 hr
  have hu1 := Room.h1 hr
  have nd := sc23.nd
  have hp : PassesOwn (model Pg w) _ (cxOf (L2.CX Pg w) Pg w K mg base ["self", "found"] "Reader.names" (defScope (topC 40 7)) (f 23) cdv A outer s H E).env (cxOf (L2.CX Pg w) Pg w K mg base ["self", "found"] "Reader.names" (defScope (topC 40 7)) (f 23) cdv A outer s H E).xe := passes_of rfl
  have tk : Takes (cxOf (L2.CX Pg w) Pg w K mg base ["self", "found"] "Reader.names" (defScope (topC 40 7)) (f 23) cdv A outer s H E) (fun cls d _ H => E cls d H) := takes_of rfl rfl rfl rfl
  exact (c_cons (c_set (i := 1) nd rfl (.inl rfl) (s_lst s_an)) (c_cons (c_while hp (t_tr (s_ownM0 (c := 0) (mn := 3) (P1inj _) rfl C.c0 C.m20 (Fs 20 (by decide)) tk hr0 T.b20 (by rfl) (s_v (i := 0) rfl (.inl rfl)))) (c_one (c_expr (s_append (s_v (i := 1) rfl (.inl rfl)) (s_ac (s_ownM0 (c := 0) (mn := 14) (P1inj _) rfl C.c0 C.m21 (Fs 21 (by decide)) tk hr0 T.b21 (by rfl) (s_v (i := 0) rfl (.inl rfl))) s_an))))) (c_one (c_ret (s_tupC (by rfl) B.tuple_ (s_v (i := 1) rfl (.inl rfl)))))))
theorem w24 (T : Tb K mg f fd) (B : Bt mg) (C : Ct K mg f) (Fs : ∀ j, j < 61 → FnOk Pg w K mg base (L2.CX Pg w) k (f j) (fd j) (psOf j) (spF (P1 K) K call j (psOf j).length)) (cdv : Value) (A : Around) (outer : List Env) (s : Shared) (H : Hp) (E : XK) (hr : Room (k + 1) (A.deeper (envOfC "Reader.number" (defScope (topC 40 8)) s.heap.objs.size (f 24) cdv))) :
    PSs (cxOf (L2.CX Pg w) Pg w K mg base ["self", "word", "where"] "Reader.number" (defScope (topC 40 8)) (f 24) cdv A outer s H E) (defBody (topC 40 8)) (tS (P1 K) K (fun cls d _ H => E cls d H) (B24 call)) := by
  have hr0 := hr.mono (Nat.le_succ k)
  have hu := Room.h64 hr
  have hu1 := Room.h1 hr
  have nd := sc24.nd
  have hp : PassesOwn (model Pg w) _ (cxOf (L2.CX Pg w) Pg w K mg base ["self", "word", "where"] "Reader.number" (defScope (topC 40 8)) (f 24) cdv A outer s H E).env (cxOf (L2.CX Pg w) Pg w K mg base ["self", "word", "where"] "Reader.number" (defScope (topC 40 8)) (f 24) cdv A outer s H E).xe := passes_of rfl
  have tk : Takes (cxOf (L2.CX Pg w) Pg w K mg base ["self", "word", "where"] "Reader.number" (defScope (topC 40 8)) (f 24) cdv A outer s H E) (fun cls d _ H => E cls d H) := takes_of rfl rfl rfl rfl
  exact (c_cons (c_if (w_or (t_eq hu (s_fld (n := 11) (P1inj _) rfl C.a11 (s_v (i := 0) rfl (.inl rfl))) (s_len (by rfl) B.len_ (s_fld (n := 15) (P1inj _) rfl C.a15 (s_v (i := 0) rfl (.inl rfl))))) (w_or1 (t_ne hu (s_ix hu1 (s_ix hu1 (s_fld (n := 15) (P1inj _) rfl C.a15 (s_v (i := 0) rfl (.inl rfl))) (s_fld (n := 11) (P1inj _) rfl C.a11 (s_v (i := 0) rfl (.inl rfl))) (fun _ _ => rfl)) s_int (fun _ _ => rfl)) (s_str (by decide +kernel) (by decide))))).pt (c_one (c_expr (s_ownM (c := 0) (mn := 12) (P1inj _) rfl C.c0 C.m17 (Fs 17 (by decide)) tk hr0 T.b17 (by rfl) (by exact (al1 al0)) (s_v (i := 0) rfl (.inl rfl)) (s_ac (s_str (by decide +kernel) (by decide)) s_an)))) c_nil) (c_cons (c_unp (s_ownM0 (c := 0) (mn := 14) (P1inj _) rfl C.c0 C.m21 (Fs 21 (by decide)) tk hr0 T.b21 (by rfl) (s_v (i := 0) rfl (.inl rfl))) (g_tup rfl (gs_cons (g_name (vs := [1, 2]) nd rfl (.inl rfl) (by decide)) (gs_cons (g_name (vs := [1, 2]) nd rfl (.inl rfl) (by decide)) gs_nil)))) (c_one (c_ret (s_tup (s_ac (s_intC (by rfl) B.int_ (s_v (i := 1) rfl (.inl rfl))) (s_ac (s_v (i := 2) rfl (.inl rfl)) s_an)))))))
theorem w25 (T : Tb K mg f fd) (B : Bt mg) (C : Ct K mg f) (Fs : ∀ j, j < 61 → FnOk Pg w K mg base (L2.CX Pg w) k (f j) (fd j) (psOf j) (spF (P1 K) K call j (psOf j).length)) (cdv : Value) (A : Around) (outer : List Env) (s : Shared) (H : Hp) (E : XK) (hr : Room (k + 1) (A.deeper (envOfC "Reader.word" (defScope (topC 40 9)) s.heap.objs.size (f 25) cdv))) :
    PSs (cxOf (L2.CX Pg w) Pg w K mg base ["self", "word"] "Reader.word" (defScope (topC 40 9)) (f 25) cdv A outer s H E) (defBody (topC 40 9)) (tS (P1 K) K (fun cls d _ H => E cls d H) (B25 call)) := by
  have hr0 := hr.mono (Nat.le_succ k)
  have hu := Room.h64 hr
  have hu1 := Room.h1 hr
  have nd := sc25.nd
  have hp : PassesOwn (model Pg w) _ (cxOf (L2.CX Pg w) Pg w K mg base ["self", "word"] "Reader.word" (defScope (topC 40 9)) (f 25) cdv A outer s H E).env (cxOf (L2.CX Pg w) Pg w K mg base ["self", "word"] "Reader.word" (defScope (topC 40 9)) (f 25) cdv A outer s H E).xe := passes_of rfl
  have tk : Takes (cxOf (L2.CX Pg w) Pg w K mg base ["self", "word"] "Reader.word" (defScope (topC 40 9)) (f 25) cdv A outer s H E) (fun cls d _ H => E cls d H) := takes_of rfl rfl rfl rfl
  exact (c_cons (c_if (t_not (t_tr (s_ownM (c := 0) (mn := 4) (P1inj _) rfl C.c0 C.m19 (Fs 19 (by decide)) tk hr0 T.b19 (by rfl) (by exact (al1 (al1 al0))) (s_v (i := 0) rfl (.inl rfl)) (s_ac (s_str (by decide +kernel) (by decide)) (s_ac (s_v (i := 1) rfl (.inl rfl)) s_an))))) (c_one (c_expr (s_ownM (c := 0) (mn := 12) (P1inj _) rfl C.c0 C.m17 (Fs 17 (by decide)) tk hr0 T.b17 (by rfl) (by exact (al1 al0)) (s_v (i := 0) rfl (.inl rfl)) (s_ac (s_v (i := 1) rfl (.inl rfl)) s_an)))) c_nil) (c_one (c_ret (s_ix hu1 (s_ownM0 (c := 0) (mn := 14) (P1inj _) rfl C.c0 C.m21 (Fs 21 (by decide)) tk hr0 T.b21 (by rfl) (s_v (i := 0) rfl (.inl rfl))) s_int (fun _ _ => rfl)))))
theorem w26 (T : Tb K mg f fd) (B : Bt mg) (C : Ct K mg f) (Fs : ∀ j, j < 61 → FnOk Pg w K mg base (L2.CX Pg w) k (f j) (fd j) (psOf j) (spF (P1 K) K call j (psOf j).length)) (cdv : Value) (A : Around) (outer : List Env) (s : Shared) (H : Hp) (E : XK) (hr : Room (k + 1) (A.deeper (envOfC "Reader.sign" (defScope (topC 40 10)) s.heap.objs.size (f 26) cdv))) :
    PSs (cxOf (L2.CX Pg w) Pg w K mg base ["self", "sign"] "Reader.sign" (defScope (topC 40 10)) (f 26) cdv A outer s H E) (defBody (topC 40 10)) (tS (P1 K) K (fun cls d _ H => E cls d H) (B26 call)) := by
  have hr0 := hr.mono (Nat.le_succ k)
  have hu := Room.h64 hr
  have hu1 := Room.h1 hr
  have nd := sc26.nd
  have hp : PassesOwn (model Pg w) _ (cxOf (L2.CX Pg w) Pg w K mg base ["self", "sign"] "Reader.sign" (defScope (topC 40 10)) (f 26) cdv A outer s H E).env (cxOf (L2.CX Pg w) Pg w K mg base ["self", "sign"] "Reader.sign" (defScope (topC 40 10)) (f 26) cdv A outer s H E).xe := passes_of rfl
  have tk : Takes (cxOf (L2.CX Pg w) Pg w K mg base ["self", "sign"] "Reader.sign" (defScope (topC 40 10)) (f 26) cdv A outer s H E) (fun cls d _ H => E cls d H) := takes_of rfl rfl rfl rfl
  exact (c_cons (c_if (t_not (t_tr (s_ownM (c := 0) (mn := 4) (P1inj _) rfl C.c0 C.m19 (Fs 19 (by decide)) tk hr0 T.b19 (by rfl) (by exact (al1 (al1 al0))) (s_v (i := 0) rfl (.inl rfl)) (s_ac (s_str (by decide +kernel) (by decide)) (s_ac (s_v (i := 1) rfl (.inl rfl)) s_an))))) (c_one (c_expr (s_ownM (c := 0) (mn := 12) (P1inj _) rfl C.c0 C.m17 (Fs 17 (by decide)) tk hr0 T.b17 (by rfl) (by exact (al1 al0)) (s_v (i := 0) rfl (.inl rfl)) (s_ac (s_str (by decide +kernel) (by decide)) s_an)))) c_nil) (c_one (c_fldAdd (n := 11) (P1inj _) rfl C.a11 (s_v (i := 0) rfl (.inl rfl)) s_int)))
theorem w27 (T : Tb K mg f fd) (B : Bt mg) (C : Ct K mg f) (Fs : ∀ j, j < 61 → FnOk Pg w K mg base (L2.CX Pg w) k (f j) (fd j) (psOf j) (spF (P1 K) K call j (psOf j).length)) (cdv : Value) (A : Around) (outer : List Env) (s : Shared) (H : Hp) (E : XK) (hr : Room (k + 1) (A.deeper (envOfC "read_kinds" (defScope (top 41)) s.heap.objs.size (f 27) cdv))) :
    PSs (cxOf (L2.CX Pg w) Pg w K mg base ["reader", "found"] "read_kinds" (defScope (top 41)) (f 27) cdv A outer s H E) (defBody (top 41)) (tS (P1 K) K (fun cls d _ H => E cls d H) (B27 call)) := by
  have hr0 := hr.mono (Nat.le_succ k)
  have hu := Room.h64 hr
  have hu1 := Room.h1 hr
  have nd := sc27.nd
  have hp : PassesOwn (model Pg w) _ (cxOf (L2.CX Pg w) Pg w K mg base ["reader", "found"] "read_kinds" (defScope (top 41)) (f 27) cdv A outer s H E).env (cxOf (L2.CX Pg w) Pg w K mg base ["reader", "found"] "read_kinds" (defScope (top 41)) (f 27) cdv A outer s H E).xe := passes_of rfl
  have tk : Takes (cxOf (L2.CX Pg w) Pg w K mg base ["reader", "found"] "read_kinds" (defScope (top 41)) (f 27) cdv A outer s H E) (fun cls d _ H => E cls d H) := takes_of rfl rfl rfl rfl
  exact (c_cons (c_expr (s_ownM (c := 0) (mn := 16) (P1inj _) rfl C.c0 C.m25 (Fs 25 (by decide)) tk hr0 T.b25 (by rfl) (by exact (al1 al0)) (s_v (i := 0) rfl (.inl rfl)) (s_ac (s_str (by decide +kernel) (by decide)) s_an))) (c_cons (c_set (i := 1) nd rfl (.inl rfl) (s_lst (s_ac (s_ownM0 (c := 0) (mn := 8) (P1inj _) rfl C.c0 C.m22 (Fs 22 (by decide)) tk hr0 T.b22 (by rfl) (s_v (i := 0) rfl (.inl rfl))) s_an))) (c_cons (c_while hp (t_tr (s_ownM (c := 0) (mn := 4) (P1inj _) rfl C.c0 C.m19 (Fs 19 (by decide)) tk hr0 T.b19 (by rfl) (by exact (al1 (al1 al0))) (s_v (i := 0) rfl (.inl rfl)) (s_ac (s_str (by decide +kernel) (by decide)) (s_ac (s_str (by decide +kernel) (by decide)) s_an)))) (c_cons (c_fldAdd (n := 11) (P1inj _) rfl C.a11 (s_v (i := 0) rfl (.inl rfl)) s_int) (c_one (c_expr (s_append (s_v (i := 1) rfl (.inl rfl)) (s_ac (s_ownM0 (c := 0) (mn := 8) (P1inj _) rfl C.c0 C.m22 (Fs 22 (by decide)) tk hr0 T.b22 (by rfl) (s_v (i := 0) rfl (.inl rfl))) s_an)))))) (c_cons (c_expr (s_ownM (c := 0) (mn := 13) (P1inj _) rfl C.c0 C.m26 (Fs 26 (by decide)) tk hr0 T.b26 (by rfl) (by exact (al1 al0)) (s_v (i := 0) rfl (.inl rfl)) (s_ac (s_str (by decide +kernel) (by decide)) s_an))) (c_one (c_ret (s_tupC (by rfl) B.tuple_ (s_v (i := 1) rfl (.inl rfl)))))))))
theorem w28 (T : Tb K mg f fd) (B : Bt mg) (C : Ct K mg f) (Fs : ∀ j, j < 61 → FnOk Pg w K mg base (L2.CX Pg w) k (f j) (fd j) (psOf j) (spF (P1 K) K call j (psOf j).length)) (cdv : Value) (A : Around) (outer : List Env) (s : Shared) (H : Hp) (E : XK) (hr : Room (k + 1) (A.deeper (envOfC "read_deed" (defScope (top 42)) s.heap.objs.size (f 28) cdv))) :
    PSs (cxOf (L2.CX Pg w) Pg w K mg base ["reader", "name", "off", "put"] "read_deed" (defScope (top 42)) (f 28) cdv A outer s H E) (defBody (top 42)) (tS (P1 K) K (fun cls d _ H => E cls d H) (B28 call)) := by
  have hr0 := hr.mono (Nat.le_succ k)
  have hu := Room.h64 hr
  have hu1 := Room.h1 hr
  have nd := sc28.nd
  have hp : PassesOwn (model Pg w) _ (cxOf (L2.CX Pg w) Pg w K mg base ["reader", "name", "off", "put"] "read_deed" (defScope (top 42)) (f 28) cdv A outer s H E).env (cxOf (L2.CX Pg w) Pg w K mg base ["reader", "name", "off", "put"] "read_deed" (defScope (top 42)) (f 28) cdv A outer s H E).xe := passes_of rfl
  have tk : Takes (cxOf (L2.CX Pg w) Pg w K mg base ["reader", "name", "off", "put"] "read_deed" (defScope (top 42)) (f 28) cdv A outer s H E) (fun cls d _ H => E cls d H) := takes_of rfl rfl rfl rfl
  exact (c_cons (c_expr (s_ownM (c := 0) (mn := 16) (P1inj _) rfl C.c0 C.m25 (Fs 25 (by decide)) tk hr0 T.b25 (by rfl) (by exact (al1 al0)) (s_v (i := 0) rfl (.inl rfl)) (s_ac (s_str (by decide +kernel) (by decide)) s_an))) (c_cons (c_set (i := 1) nd rfl (.inl rfl) (s_ownM0 (c := 0) (mn := 8) (P1inj _) rfl C.c0 C.m22 (Fs 22 (by decide)) tk hr0 T.b22 (by rfl) (s_v (i := 0) rfl (.inl rfl)))) (c_cons (c_expr (s_ownM (c := 0) (mn := 13) (P1inj _) rfl C.c0 C.m26 (Fs 26 (by decide)) tk hr0 T.b26 (by rfl) (by exact (al1 al0)) (s_v (i := 0) rfl (.inl rfl)) (s_ac (s_str (by decide +kernel) (by decide)) s_an))) (c_cons (c_set (i := 2) nd rfl (.inl rfl) (s_ownM0 (c := 0) (mn := 9) (P1inj _) rfl C.c0 C.m23 (Fs 23 (by decide)) tk hr0 T.b23 (by rfl) (s_v (i := 0) rfl (.inl rfl)))) (c_cons (c_expr (s_ownM (c := 0) (mn := 16) (P1inj _) rfl C.c0 C.m25 (Fs 25 (by decide)) tk hr0 T.b25 (by rfl) (by exact (al1 al0)) (s_v (i := 0) rfl (.inl rfl)) (s_ac (s_str (by decide +kernel) (by decide)) s_an))) (c_cons (c_set (i := 3) nd rfl (.inl rfl) (s_ownM0 (c := 0) (mn := 9) (P1inj _) rfl C.c0 C.m23 (Fs 23 (by decide)) tk hr0 T.b23 (by rfl) (s_v (i := 0) rfl (.inl rfl)))) (c_cons (c_expr (s_ownM (c := 0) (mn := 13) (P1inj _) rfl C.c0 C.m26 (Fs 26 (by decide)) tk hr0 T.b26 (by rfl) (by exact (al1 al0)) (s_v (i := 0) rfl (.inl rfl)) (s_ac (s_str (by decide +kernel) (by decide)) s_an))) (c_one (c_ret (s_tup (s_ac (s_v (i := 1) rfl (.inl rfl)) (s_ac (s_v (i := 2) rfl (.inl rfl)) (s_ac (s_v (i := 3) rfl (.inl rfl)) s_an)))))))))))))
theorem w29 (T : Tb K mg f fd) (B : Bt mg) (C : Ct K mg f) (Fs : ∀ j, j < 61 → FnOk Pg w K mg base (L2.CX Pg w) k (f j) (fd j) (psOf j) (spF (P1 K) K call j (psOf j).length)) (cdv : Value) (A : Around) (outer : List Env) (s : Shared) (H : Hp) (E : XK) (hr : Room (k + 1) (A.deeper (envOfC "read_either" (defScope (top 43)) s.heap.objs.size (f 29) cdv))) :
    PSs (cxOf (L2.CX Pg w) Pg w K mg base ["reader", "where", "blocks"] "read_either" (defScope (top 43)) (f 29) cdv A outer s H E) (defBody (top 43)) (tS (P1 K) K (fun cls d _ H => E cls d H) (B29 call)) := by
  have hr0 := hr.mono (Nat.le_succ k)
  have hu := Room.h64 hr
  have hu1 := Room.h1 hr
  have nd := sc29.nd
  have hp : PassesOwn (model Pg w) _ (cxOf (L2.CX Pg w) Pg w K mg base ["reader", "where", "blocks"] "read_either" (defScope (top 43)) (f 29) cdv A outer s H E).env (cxOf (L2.CX Pg w) Pg w K mg base ["reader", "where", "blocks"] "read_either" (defScope (top 43)) (f 29) cdv A outer s H E).xe := passes_of rfl
  have tk : Takes (cxOf (L2.CX Pg w) Pg w K mg base ["reader", "where", "blocks"] "read_either" (defScope (top 43)) (f 29) cdv A outer s H E) (fun cls d _ H => E cls d H) := takes_of rfl rfl rfl rfl
  exact (c_cons (c_set (i := 1) nd rfl (.inl rfl) (s_ownM (c := 0) (mn := 16) (P1inj _) rfl C.c0 C.m25 (Fs 25 (by decide)) tk hr0 T.b25 (by rfl) (by exact (al1 al0)) (s_v (i := 0) rfl (.inl rfl)) (s_ac (s_str (by decide +kernel) (by decide)) s_an))) (c_cons (c_set (i := 2) nd rfl (.inl rfl) (s_lst (s_ac (s_callH (Fs 31 (by decide)) tk hr0 (by rfl) T.g31 T.k31 T.b31 (by rfl) (by exact (al1 al0)) (s_ac (s_v (i := 0) rfl (.inl rfl)) s_an)) s_an))) (c_cons (c_expr (s_ownM (c := 0) (mn := 16) (P1inj _) rfl C.c0 C.m25 (Fs 25 (by decide)) tk hr0 T.b25 (by rfl) (by exact (al1 al0)) (s_v (i := 0) rfl (.inl rfl)) (s_ac (s_str (by decide +kernel) (by decide)) s_an))) (c_cons (c_expr (s_append (s_v (i := 2) rfl (.inl rfl)) (s_ac (s_callH (Fs 31 (by decide)) tk hr0 (by rfl) T.g31 T.k31 T.b31 (by rfl) (by exact (al1 al0)) (s_ac (s_v (i := 0) rfl (.inl rfl)) s_an)) s_an))) (c_cons (c_while hp (t_tr (s_ownM (c := 0) (mn := 4) (P1inj _) rfl C.c0 C.m19 (Fs 19 (by decide)) tk hr0 T.b19 (by rfl) (by exact (al1 (al1 al0))) (s_v (i := 0) rfl (.inl rfl)) (s_ac (s_str (by decide +kernel) (by decide)) (s_ac (s_str (by decide +kernel) (by decide)) s_an)))) (c_cons (c_fldAdd (n := 11) (P1inj _) rfl C.a11 (s_v (i := 0) rfl (.inl rfl)) s_int) (c_one (c_expr (s_append (s_v (i := 2) rfl (.inl rfl)) (s_ac (s_callH (Fs 31 (by decide)) tk hr0 (by rfl) T.g31 T.k31 T.b31 (by rfl) (by exact (al1 al0)) (s_ac (s_v (i := 0) rfl (.inl rfl)) s_an)) s_an)))))) (c_one (c_ret (s_tup (s_ac (s_str (by decide +kernel) (by decide)) (s_ac (s_tupC (by rfl) B.tuple_ (s_v (i := 2) rfl (.inl rfl))) (s_ac (s_v (i := 1) rfl (.inl rfl)) s_an)))))))))))
theorem w30 (T : Tb K mg f fd) (B : Bt mg) (C : Ct K mg f) (Fs : ∀ j, j < 61 → FnOk Pg w K mg base (L2.CX Pg w) k (f j) (fd j) (psOf j) (spF (P1 K) K call j (psOf j).length)) (cdv : Value) (A : Around) (outer : List Env) (s : Shared) (H : Hp) (E : XK) (hr : Room (k + 1) (A.deeper (envOfC "read_statement" (defScope (top 44)) s.heap.objs.size (f 30) cdv))) :
    PSs (cxOf (L2.CX Pg w) Pg w K mg base ["reader", "where", "number", "told"] "read_statement" (defScope (top 44)) (f 30) cdv A outer s H E) (defBody (top 44)) (tS (P1 K) K (fun cls d _ H => E cls d H) (B30 call)) := by
  have hr0 := hr.mono (Nat.le_succ k)
  have hu := Room.h64 hr
  have hu1 := Room.h1 hr
  have nd := sc30.nd
  have hp : PassesOwn (model Pg w) _ (cxOf (L2.CX Pg w) Pg w K mg base ["reader", "where", "number", "told"] "read_statement" (defScope (top 44)) (f 30) cdv A outer s H E).env (cxOf (L2.CX Pg w) Pg w K mg base ["reader", "where", "number", "told"] "read_statement" (defScope (top 44)) (f 30) cdv A outer s H E).xe := passes_of rfl
  have tk : Takes (cxOf (L2.CX Pg w) Pg w K mg base ["reader", "where", "number", "told"] "read_statement" (defScope (top 44)) (f 30) cdv A outer s H E) (fun cls d _ H => E cls d H) := takes_of rfl rfl rfl rfl
  exact (c_cons (c_if (t_tr (s_ownM (c := 0) (mn := 4) (P1inj _) rfl C.c0 C.m19 (Fs 19 (by decide)) tk hr0 T.b19 (by rfl) (by exact (al1 (al1 al0))) (s_v (i := 0) rfl (.inl rfl)) (s_ac (s_str (by decide +kernel) (by decide)) (s_ac (s_str (by decide +kernel) (by decide)) s_an)))) (c_one (c_ret (s_callH (Fs 29 (by decide)) tk hr0 (by rfl) T.g29 T.k29 T.b29 (by rfl) (by exact (al1 al0)) (s_ac (s_v (i := 0) rfl (.inl rfl)) s_an)))) c_nil) (c_cons (c_if (t_tr (s_ownM (c := 0) (mn := 4) (P1inj _) rfl C.c0 C.m19 (Fs 19 (by decide)) tk hr0 T.b19 (by rfl) (by exact (al1 (al1 al0))) (s_v (i := 0) rfl (.inl rfl)) (s_ac (s_str (by decide +kernel) (by decide)) (s_ac (s_str (by decide +kernel) (by decide)) s_an)))) (c_cons (c_set (i := 1) nd rfl (.inl rfl) (s_ownM (c := 0) (mn := 16) (P1inj _) rfl C.c0 C.m25 (Fs 25 (by decide)) tk hr0 T.b25 (by rfl) (by exact (al1 al0)) (s_v (i := 0) rfl (.inl rfl)) (s_ac (s_str (by decide +kernel) (by decide)) s_an))) (c_one (c_ret (s_tup (s_ac (s_str (by decide +kernel) (by decide)) (s_ac (s_callH (Fs 31 (by decide)) tk hr0 (by rfl) T.g31 T.k31 T.b31 (by rfl) (by exact (al1 al0)) (s_ac (s_v (i := 0) rfl (.inl rfl)) s_an)) (s_ac (s_v (i := 1) rfl (.inl rfl)) s_an))))))) c_nil) (c_cons (c_if (t_tr (s_ownM (c := 0) (mn := 4) (P1inj _) rfl C.c0 C.m19 (Fs 19 (by decide)) tk hr0 T.b19 (by rfl) (by exact (al1 (al1 al0))) (s_v (i := 0) rfl (.inl rfl)) (s_ac (s_str (by decide +kernel) (by decide)) (s_ac (s_str (by decide +kernel) (by decide)) s_an)))) (c_cons (c_set (i := 1) nd rfl (.inl rfl) (s_ownM (c := 0) (mn := 16) (P1inj _) rfl C.c0 C.m25 (Fs 25 (by decide)) tk hr0 T.b25 (by rfl) (by exact (al1 al0)) (s_v (i := 0) rfl (.inl rfl)) (s_ac (s_str (by decide +kernel) (by decide)) s_an))) (c_cons (c_set (i := 2) nd rfl (.inl rfl) (s_ownM0 (c := 0) (mn := 10) (P1inj _) rfl C.c0 C.m24 (Fs 24 (by decide)) tk hr0 T.b24 (by rfl) (s_v (i := 0) rfl (.inl rfl)))) (c_one (c_ret (s_tup (s_ac (s_str (by decide +kernel) (by decide)) (s_ac (s_v (i := 2) rfl (.inl rfl)) (s_ac (s_callH (Fs 31 (by decide)) tk hr0 (by rfl) T.g31 T.k31 T.b31 (by rfl) (by exact (al1 al0)) (s_ac (s_v (i := 0) rfl (.inl rfl)) s_an)) (s_ac (s_v (i := 1) rfl (.inl rfl)) s_an))))))))) c_nil) (c_cons (c_if (t_tr (s_ownM (c := 0) (mn := 4) (P1inj _) rfl C.c0 C.m19 (Fs 19 (by decide)) tk hr0 T.b19 (by rfl) (by exact (al1 (al1 al0))) (s_v (i := 0) rfl (.inl rfl)) (s_ac (s_str (by decide +kernel) (by decide)) (s_ac (s_str (by decide +kernel) (by decide)) s_an)))) (c_one (c_set (i := 3) nd rfl (.inl rfl) (s_tup (s_ac (s_str (by decide +kernel) (by decide)) (s_ac (s_ownM (c := 0) (mn := 16) (P1inj _) rfl C.c0 C.m25 (Fs 25 (by decide)) tk hr0 T.b25 (by rfl) (by exact (al1 al0)) (s_v (i := 0) rfl (.inl rfl)) (s_ac (s_str (by decide +kernel) (by decide)) s_an)) s_an))))) (c_one (c_if (t_tr (s_ownM0 (c := 0) (mn := 3) (P1inj _) rfl C.c0 C.m20 (Fs 20 (by decide)) tk hr0 T.b20 (by rfl) (s_v (i := 0) rfl (.inl rfl)))) (c_one (c_set (i := 3) nd rfl (.inl rfl) (s_tup (s_ac (s_str (by decide +kernel) (by decide)) (s_ac (s_ownM0 (c := 0) (mn := 14) (P1inj _) rfl C.c0 C.m21 (Fs 21 (by decide)) tk hr0 T.b21 (by rfl) (s_v (i := 0) rfl (.inl rfl))) s_an))))) (c_one (c_expr (s_ownM (c := 0) (mn := 12) (P1inj _) rfl C.c0 C.m17 (Fs 17 (by decide)) tk hr0 T.b17 (by rfl) (by exact (al1 al0)) (s_v (i := 0) rfl (.inl rfl)) (s_ac (s_str (by decide +kernel) (by decide)) s_an))))))) (c_cons (c_expr (s_ownM (c := 0) (mn := 13) (P1inj _) rfl C.c0 C.m26 (Fs 26 (by decide)) tk hr0 T.b26 (by rfl) (by exact (al1 al0)) (s_v (i := 0) rfl (.inl rfl)) (s_ac (s_str (by decide +kernel) (by decide)) s_an))) (c_one (c_ret (s_v (i := 3) rfl (.inl rfl)))))))))
theorem w31 (T : Tb K mg f fd) (B : Bt mg) (C : Ct K mg f) (Fs : ∀ j, j < 61 → FnOk Pg w K mg base (L2.CX Pg w) k (f j) (fd j) (psOf j) (spF (P1 K) K call j (psOf j).length)) (cdv : Value) (A : Around) (outer : List Env) (s : Shared) (H : Hp) (E : XK) (hr : Room (k + 1) (A.deeper (envOfC "read_block" (defScope (top 45)) s.heap.objs.size (f 31) cdv))) :
    PSs (cxOf (L2.CX Pg w) Pg w K mg base ["reader", "found"] "read_block" (defScope (top 45)) (f 31) cdv A outer s H E) (defBody (top 45)) (tS (P1 K) K (fun cls d _ H => E cls d H) (B31 call)) := by
  have hr0 := hr.mono (Nat.le_succ k)
  have hu := Room.h64 hr
  have hu1 := Room.h1 hr
  have nd := sc31.nd
  have hp : PassesOwn (model Pg w) _ (cxOf (L2.CX Pg w) Pg w K mg base ["reader", "found"] "read_block" (defScope (top 45)) (f 31) cdv A outer s H E).env (cxOf (L2.CX Pg w) Pg w K mg base ["reader", "found"] "read_block" (defScope (top 45)) (f 31) cdv A outer s H E).xe := passes_of rfl
  have tk : Takes (cxOf (L2.CX Pg w) Pg w K mg base ["reader", "found"] "read_block" (defScope (top 45)) (f 31) cdv A outer s H E) (fun cls d _ H => E cls d H) := takes_of rfl rfl rfl rfl
  exact (c_cons (c_expr (s_ownM (c := 0) (mn := 13) (P1inj _) rfl C.c0 C.m26 (Fs 26 (by decide)) tk hr0 T.b26 (by rfl) (by exact (al1 al0)) (s_v (i := 0) rfl (.inl rfl)) (s_ac (s_str (by decide +kernel) (by decide)) s_an))) (c_cons (c_set (i := 1) nd rfl (.inl rfl) (s_lst s_an)) (c_cons (c_while hp (t_not (t_tr (s_ownM (c := 0) (mn := 4) (P1inj _) rfl C.c0 C.m19 (Fs 19 (by decide)) tk hr0 T.b19 (by rfl) (by exact (al1 (al1 al0))) (s_v (i := 0) rfl (.inl rfl)) (s_ac (s_str (by decide +kernel) (by decide)) (s_ac (s_str (by decide +kernel) (by decide)) s_an))))) (c_one (c_expr (s_append (s_v (i := 1) rfl (.inl rfl)) (s_ac (s_callH (Fs 30 (by decide)) tk hr0 (by rfl) T.g30 T.k30 T.b30 (by rfl) (by exact (al1 al0)) (s_ac (s_v (i := 0) rfl (.inl rfl)) s_an)) s_an))))) (c_cons (c_fldAdd (n := 11) (P1inj _) rfl C.a11 (s_v (i := 0) rfl (.inl rfl)) s_int) (c_one (c_ret (s_tupC (by rfl) B.tuple_ (s_v (i := 1) rfl (.inl rfl)))))))))
theorem w32 (T : Tb K mg f fd) (B : Bt mg) (C : Ct K mg f) (Fs : ∀ j, j < 61 → FnOk Pg w K mg base (L2.CX Pg w) k (f j) (fd j) (psOf j) (spF (P1 K) K call j (psOf j).length)) (cdv : Value) (A : Around) (outer : List Env) (s : Shared) (H : Hp) (E : XK) (hr : Room (k + 1) (A.deeper (envOfC "read_words" (defScope (top 46)) s.heap.objs.size (f 32) cdv))) :
    PSs (cxOf (L2.CX Pg w) Pg w K mg base ["reader", "found", "name"] "read_words" (defScope (top 46)) (f 32) cdv A outer s H E) (defBody (top 46)) (tS (P1 K) K (fun cls d _ H => E cls d H) (B32 call)) := by
  have hr0 := hr.mono (Nat.le_succ k)
  have hu := Room.h64 hr
  have hu1 := Room.h1 hr
  have nd := sc32.nd
  have hp : PassesOwn (model Pg w) _ (cxOf (L2.CX Pg w) Pg w K mg base ["reader", "found", "name"] "read_words" (defScope (top 46)) (f 32) cdv A outer s H E).env (cxOf (L2.CX Pg w) Pg w K mg base ["reader", "found", "name"] "read_words" (defScope (top 46)) (f 32) cdv A outer s H E).xe := passes_of rfl
  have tk : Takes (cxOf (L2.CX Pg w) Pg w K mg base ["reader", "found", "name"] "read_words" (defScope (top 46)) (f 32) cdv A outer s H E) (fun cls d _ H => E cls d H) := takes_of rfl rfl rfl rfl
  exact (c_cons (c_set (i := 1) nd rfl (.inl rfl) (s_lst s_an)) (c_cons (c_while hp (w_or (t_not (t_tr (s_v (i := 1) rfl (.inl rfl)))) (w_or1 (t_lt  (s_fld (n := 11) (P1inj _) rfl C.a11 (s_v (i := 0) rfl (.inl rfl))) (s_len (by rfl) B.len_ (s_fld (n := 15) (P1inj _) rfl C.a15 (s_v (i := 0) rfl (.inl rfl))))))).pt (c_cons (c_expr (s_ownM (c := 0) (mn := 16) (P1inj _) rfl C.c0 C.m25 (Fs 25 (by decide)) tk hr0 T.b25 (by rfl) (by exact (al1 al0)) (s_v (i := 0) rfl (.inl rfl)) (s_ac (s_str (by decide +kernel) (by decide)) s_an))) (c_cons (c_set (i := 2) nd rfl (.inl rfl) (s_ownM0 (c := 0) (mn := 8) (P1inj _) rfl C.c0 C.m22 (Fs 22 (by decide)) tk hr0 T.b22 (by rfl) (s_v (i := 0) rfl (.inl rfl)))) (c_one (c_expr (s_append (s_v (i := 1) rfl (.inl rfl)) (s_ac (s_tup (s_ac (s_v (i := 2) rfl (.inl rfl)) (s_ac (s_callH (Fs 31 (by decide)) tk hr0 (by rfl) T.g31 T.k31 T.b31 (by rfl) (by exact (al1 al0)) (s_ac (s_v (i := 0) rfl (.inl rfl)) s_an)) s_an))) s_an))))))) (c_one (c_ret (s_tupC (by rfl) B.tuple_ (s_v (i := 1) rfl (.inl rfl)))))))
theorem w33 (T : Tb K mg f fd) (B : Bt mg) (C : Ct K mg f) (Fs : ∀ j, j < 61 → FnOk Pg w K mg base (L2.CX Pg w) k (f j) (fd j) (psOf j) (spF (P1 K) K call j (psOf j).length)) (cdv : Value) (A : Around) (outer : List Env) (s : Shared) (H : Hp) (E : XK) (hr : Room (k + 1) (A.deeper (envOfC "tree_of" (defScope (top 47)) s.heap.objs.size (f 33) cdv))) :
    PSs (cxOf (L2.CX Pg w) Pg w K mg base ["text", "reader", "kinds", "deeds"] "tree_of" (defScope (top 47)) (f 33) cdv A outer s H E) (defBody (top 47)) (tS (P1 K) K (fun cls d _ H => E cls d H) (B33 call)) := by
  have hr0 := hr.mono (Nat.le_succ k)
  have hu := Room.h64 hr
  have hu1 := Room.h1 hr
  have nd := sc33.nd
  have hp : PassesOwn (model Pg w) _ (cxOf (L2.CX Pg w) Pg w K mg base ["text", "reader", "kinds", "deeds"] "tree_of" (defScope (top 47)) (f 33) cdv A outer s H E).env (cxOf (L2.CX Pg w) Pg w K mg base ["text", "reader", "kinds", "deeds"] "tree_of" (defScope (top 47)) (f 33) cdv A outer s H E).xe := passes_of rfl
  have tk : Takes (cxOf (L2.CX Pg w) Pg w K mg base ["text", "reader", "kinds", "deeds"] "tree_of" (defScope (top 47)) (f 33) cdv A outer s H E) (fun cls d _ H => E cls d H) := takes_of rfl rfl rfl rfl
  exact (c_cons (c_set (i := 1) nd rfl (.inl rfl) (s_new (c := 0) C.k0 (Fs 16 (by decide)) tk hr (by rfl) C.g0 T.b16 (by rfl) (by exact (al1 al0)) (s_ac (s_v (i := 0) rfl (.inl rfl)) s_an))) (c_cons (c_set (i := 2) nd rfl (.inl rfl) (s_callH (Fs 27 (by decide)) tk hr0 (by rfl) T.g27 T.k27 T.b27 (by rfl) (by exact (al1 al0)) (s_ac (s_v (i := 1) rfl (.inl rfl)) s_an))) (c_cons (c_set (i := 3) nd rfl (.inl rfl) (s_lst s_an)) (c_cons (c_while hp (t_tr (s_ownM (c := 0) (mn := 4) (P1inj _) rfl C.c0 C.m19 (Fs 19 (by decide)) tk hr0 T.b19 (by rfl) (by exact (al1 (al1 al0))) (s_v (i := 1) rfl (.inl rfl)) (s_ac (s_str (by decide +kernel) (by decide)) (s_ac (s_str (by decide +kernel) (by decide)) s_an)))) (c_one (c_expr (s_append (s_v (i := 3) rfl (.inl rfl)) (s_ac (s_callH (Fs 28 (by decide)) tk hr0 (by rfl) T.g28 T.k28 T.b28 (by rfl) (by exact (al1 al0)) (s_ac (s_v (i := 1) rfl (.inl rfl)) s_an)) s_an))))) (c_one (c_ret (s_tup (s_ac (s_v (i := 2) rfl (.inl rfl)) (s_ac (s_tupC (by rfl) B.tuple_ (s_v (i := 3) rfl (.inl rfl))) (s_ac (s_callH (Fs 32 (by decide)) tk hr0 (by rfl) T.g32 T.k32 T.b32 (by rfl) (by exact (al1 al0)) (s_ac (s_v (i := 1) rfl (.inl rfl)) s_an)) s_an))))))))))
theorem w34 (T : Tb K mg f fd) (B : Bt mg) (C : Ct K mg f) (Fs : ∀ j, j < 61 → FnOk Pg w K mg base (L2.CX Pg w) k (f j) (fd j) (psOf j) (spF (P1 K) K call j (psOf j).length)) (cdv : Value) (A : Around) (outer : List Env) (s : Shared) (H : Hp) (E : XK) (hr : Room (k + 1) (A.deeper (envOfC "refuse" (defScope (top 49)) s.heap.objs.size (f 34) cdv))) :
    PSs (cxOf (L2.CX Pg w) Pg w K mg base ["where", "word"] "refuse" (defScope (top 49)) (f 34) cdv A outer s H E) (defBody (top 49)) (tS (P1 K) K (fun cls d _ H => E cls d H) (B34 call)) := by
  have hr0 := hr.mono (Nat.le_succ k)
  have hu := Room.h64 hr
  have hu1 := Room.h1 hr
  have nd := sc34.nd
  have hp : PassesOwn (model Pg w) _ (cxOf (L2.CX Pg w) Pg w K mg base ["where", "word"] "refuse" (defScope (top 49)) (f 34) cdv A outer s H E).env (cxOf (L2.CX Pg w) Pg w K mg base ["where", "word"] "refuse" (defScope (top 49)) (f 34) cdv A outer s H E).xe := passes_of rfl
  have tk : Takes (cxOf (L2.CX Pg w) Pg w K mg base ["where", "word"] "refuse" (defScope (top 49)) (f 34) cdv A outer s H E) (fun cls d _ H => E cls d H) := takes_of rfl rfl rfl rfl
  exact (c_one c_bad)
theorem w35 (T : Tb K mg f fd) (B : Bt mg) (C : Ct K mg f) (Fs : ∀ j, j < 61 → FnOk Pg w K mg base (L2.CX Pg w) k (f j) (fd j) (psOf j) (spF (P1 K) K call j (psOf j).length)) (cdv : Value) (A : Around) (outer : List Env) (s : Shared) (H : Hp) (E : XK) (hr : Room (k + 1) (A.deeper (envOfC "Draft.__init__" (defScope (topC 50 0)) s.heap.objs.size (f 35) cdv))) :
    PSs (cxOf (L2.CX Pg w) Pg w K mg base ["self"] "Draft.__init__" (defScope (topC 50 0)) (f 35) cdv A outer s H E) (defBody (topC 50 0)) (tS (P1 K) K (fun cls d _ H => E cls d H) (B35 call)) := by
  have hr0 := hr.mono (Nat.le_succ k)
  have hu := Room.h64 hr
  have hu1 := Room.h1 hr
  have nd := sc35.nd
  have hp : PassesOwn (model Pg w) _ (cxOf (L2.CX Pg w) Pg w K mg base ["self"] "Draft.__init__" (defScope (topC 50 0)) (f 35) cdv A outer s H E).env (cxOf (L2.CX Pg w) Pg w K mg base ["self"] "Draft.__init__" (defScope (topC 50 0)) (f 35) cdv A outer s H E).xe := passes_of rfl
  have tk : Takes (cxOf (L2.CX Pg w) Pg w K mg base ["self"] "Draft.__init__" (defScope (topC 50 0)) (f 35) cdv A outer s H E) (fun cls d _ H => E cls d H) := takes_of rfl rfl rfl rfl
  exact (c_cons (c_fld (n := 5) (P1inj _) rfl C.a5 (s_v (i := 0) rfl (.inl rfl)) (s_lst s_an)) (c_cons (c_fld (n := 1) (P1inj _) rfl C.a1 (s_v (i := 0) rfl (.inl rfl)) (s_lst s_an)) (c_cons (c_fld (n := 9) (P1inj _) rfl C.a9 (s_v (i := 0) rfl (.inl rfl)) (s_lst s_an)) (c_one (c_fld (n := 7) (P1inj _) rfl C.a7 (s_v (i := 0) rfl (.inl rfl)) s_int)))))
theorem w36 (T : Tb K mg f fd) (B : Bt mg) (C : Ct K mg f) (Fs : ∀ j, j < 61 → FnOk Pg w K mg base (L2.CX Pg w) k (f j) (fd j) (psOf j) (spF (P1 K) K call j (psOf j).length)) (cdv : Value) (A : Around) (outer : List Env) (s : Shared) (H : Hp) (E : XK) (hr : Room (k + 1) (A.deeper (envOfC "Draft.deed_names" (defScope (topC 50 1)) s.heap.objs.size (f 36) cdv))) :
    PSs (cxOf (L2.CX Pg w) Pg w K mg base ["self", "deed"] "Draft.deed_names" (defScope (topC 50 1)) (f 36) cdv A outer s H E) (defBody (topC 50 1)) (tS (P1 K) K (fun cls d _ H => E cls d H) (B36 call)) := by
  have hr0 := hr.mono (Nat.le_succ k)
  have hu := Room.h64 hr
  have hu1 := Room.h1 hr
  have nd := sc36.nd
  have hp : PassesOwn (model Pg w) _ (cxOf (L2.CX Pg w) Pg w K mg base ["self", "deed"] "Draft.deed_names" (defScope (topC 50 1)) (f 36) cdv A outer s H E).env (cxOf (L2.CX Pg w) Pg w K mg base ["self", "deed"] "Draft.deed_names" (defScope (topC 50 1)) (f 36) cdv A outer s H E).xe := passes_of rfl
  have tk : Takes (cxOf (L2.CX Pg w) Pg w K mg base ["self", "deed"] "Draft.deed_names" (defScope (topC 50 1)) (f 36) cdv A outer s H E) (fun cls d _ H => E cls d H) := takes_of rfl rfl rfl rfl
  exact (c_one (c_ret (s_lc (own := [("deed", 1)]) (tgOk_v (by decide)) rfl nd (i_seq (s_fld (n := 1) (P1inj _) rfl C.a1 (s_v (i := 0) rfl (.inl rfl)))) (blkOk_by rfl) (fun _ _ _ _ _ => (g_name (vs := [1]) nd rfl (.inl rfl) (by decide))) (fun _ _ _ _ _ => ts_nil) (fun _ _ _ _ _ => (s_ix hu1 (s_v (i := 1) rfl (.inl rfl)) s_int (fun _ _ => rfl))))))
theorem w37 (T : Tb K mg f fd) (B : Bt mg) (C : Ct K mg f) (Fs : ∀ j, j < 61 → FnOk Pg w K mg base (L2.CX Pg w) k (f j) (fd j) (psOf j) (spF (P1 K) K call j (psOf j).length)) (cdv : Value) (A : Around) (outer : List Env) (s : Shared) (H : Hp) (E : XK) (hr : Room (k + 1) (A.deeper (envOfC "add_name" (defScope (top 51)) s.heap.objs.size (f 37) cdv))) :
    PSs (cxOf (L2.CX Pg w) Pg w K mg base ["found", "others", "name", "most"] "add_name" (defScope (top 51)) (f 37) cdv A outer s H E) (defBody (top 51)) (tS (P1 K) K (fun cls d _ H => E cls d H) (B37 call)) := by
  have hr0 := hr.mono (Nat.le_succ k)
  have hu := Room.h64 hr
  have hu1 := Room.h1 hr
  have nd := sc37.nd
  have hp : PassesOwn (model Pg w) _ (cxOf (L2.CX Pg w) Pg w K mg base ["found", "others", "name", "most"] "add_name" (defScope (top 51)) (f 37) cdv A outer s H E).env (cxOf (L2.CX Pg w) Pg w K mg base ["found", "others", "name", "most"] "add_name" (defScope (top 51)) (f 37) cdv A outer s H E).xe := passes_of rfl
  have tk : Takes (cxOf (L2.CX Pg w) Pg w K mg base ["found", "others", "name", "most"] "add_name" (defScope (top 51)) (f 37) cdv A outer s H E) (fun cls d _ H => E cls d H) := takes_of rfl rfl rfl rfl
  exact (c_cons (c_if (w_or (t_in hu1 (s_ix hu1 (s_v (i := 2) rfl (.inl rfl)) s_int (fun _ _ => rfl)) (s_v (i := 0) rfl (.inl rfl)) (by rfl)) (w_or1 (t_in hu1 (s_ix hu1 (s_v (i := 2) rfl (.inl rfl)) s_int (fun _ _ => rfl)) (s_v (i := 1) rfl (.inl rfl)) (by rfl)))).pt (c_one (c_expr (s_callH (Fs 34 (by decide)) tk hr0 (by rfl) T.g34 T.k34 T.b34 (by rfl) (by exact (al1 (al1 al0))) (s_ac (s_ix hu1 (s_v (i := 2) rfl (.inl rfl)) s_int (fun _ _ => rfl)) (s_ac (s_str (by decide +kernel) (by decide)) s_an))))) c_nil) (c_one (c_if (t_eq hu (s_len (by rfl) B.len_ (s_v (i := 0) rfl (.inl rfl))) (s_v (i := 3) rfl (.inl rfl))) (c_one (c_expr (s_callH (Fs 34 (by decide)) tk hr0 (by rfl) T.g34 T.k34 T.b34 (by rfl) (by exact (al1 (al1 al0))) (s_ac (s_ix hu1 (s_v (i := 2) rfl (.inl rfl)) s_int (fun _ _ => rfl)) (s_ac (s_str (by decide +kernel) (by decide)) s_an))))) c_nil)))
theorem w38 (T : Tb K mg f fd) (B : Bt mg) (C : Ct K mg f) (Fs : ∀ j, j < 61 → FnOk Pg w K mg base (L2.CX Pg w) k (f j) (fd j) (psOf j) (spF (P1 K) K call j (psOf j).length)) (cdv : Value) (A : Around) (outer : List Env) (s : Shared) (H : Hp) (E : XK) (hr : Room (k + 1) (A.deeper (envOfC "pile_of" (defScope (top 52)) s.heap.objs.size (f 38) cdv))) :
    PSs (cxOf (L2.CX Pg w) Pg w K mg base ["draft", "names", "found", "word", "where"] "pile_of" (defScope (top 52)) (f 38) cdv A outer s H E) (defBody (top 52)) (tS (P1 K) K (fun cls d _ H => E cls d H) (B38 call)) := by
  have hr0 := hr.mono (Nat.le_succ k)
  have hu := Room.h64 hr
  have hu1 := Room.h1 hr
  have nd := sc38.nd
  have hp : PassesOwn (model Pg w) _ (cxOf (L2.CX Pg w) Pg w K mg base ["draft", "names", "found", "word", "where"] "pile_of" (defScope (top 52)) (f 38) cdv A outer s H E).env (cxOf (L2.CX Pg w) Pg w K mg base ["draft", "names", "found", "word", "where"] "pile_of" (defScope (top 52)) (f 38) cdv A outer s H E).xe := passes_of rfl
  have tk : Takes (cxOf (L2.CX Pg w) Pg w K mg base ["draft", "names", "found", "word", "where"] "pile_of" (defScope (top 52)) (f 38) cdv A outer s H E) (fun cls d _ H => E cls d H) := takes_of rfl rfl rfl rfl
  exact (c_cons (c_set (i := 2) nd rfl (.inl rfl) (s_lst s_an)) (c_cons (c_for hp rfl (i_seq (s_v (i := 1) rfl (.inl rfl))) (g_tup rfl (gs_cons (g_name (vs := [3, 4]) nd rfl (.inl rfl) (by decide)) (gs_cons (g_name (vs := [3, 4]) nd rfl (.inl rfl) (by decide)) gs_nil))) (c_cons (c_if (t_notin hu1 (s_v (i := 3) rfl (.inl rfl)) (s_fld (n := 5) (P1inj _) rfl C.a5 (s_v (i := 0) rfl (.inl rfl))) (by rfl)) (c_one (c_expr (s_callH (Fs 34 (by decide)) tk hr0 (by rfl) T.g34 T.k34 T.b34 (by rfl) (by exact (al1 (al1 al0))) (s_ac (s_v (i := 4) rfl (.inl rfl)) (s_ac (s_str (by decide +kernel) (by decide)) s_an))))) c_nil) (c_cons (c_if (t_eq hu (s_len (by rfl) B.len_ (s_v (i := 2) rfl (.inl rfl))) (s_glob (by rfl) C.n_TAKEN_MOST)) (c_one (c_expr (s_callH (Fs 34 (by decide)) tk hr0 (by rfl) T.g34 T.k34 T.b34 (by rfl) (by exact (al1 (al1 al0))) (s_ac (s_v (i := 4) rfl (.inl rfl)) (s_ac (s_str (by decide +kernel) (by decide)) s_an))))) c_nil) (c_one (c_expr (s_append (s_v (i := 2) rfl (.inl rfl)) (s_ac (s_index (s_fld (n := 5) (P1inj _) rfl C.a5 (s_v (i := 0) rfl (.inl rfl))) (s_ac (s_v (i := 3) rfl (.inl rfl)) s_an)) s_an))))))) (c_one (c_ret (s_tupC (by rfl) B.tuple_ (s_v (i := 2) rfl (.inl rfl)))))))
theorem w39 (T : Tb K mg f fd) (B : Bt mg) (C : Ct K mg f) (Fs : ∀ j, j < 61 → FnOk Pg w K mg base (L2.CX Pg w) k (f j) (fd j) (psOf j) (spF (P1 K) K call j (psOf j).length)) (cdv : Value) (A : Around) (outer : List Env) (s : Shared) (H : Hp) (E : XK) (hr : Room (k + 1) (A.deeper (envOfC "add_deed" (defScope (top 53)) s.heap.objs.size (f 39) cdv))) :
    PSs (cxOf (L2.CX Pg w) Pg w K mg base ["draft", "told", "name", "off", "put"] "add_deed" (defScope (top 53)) (f 39) cdv A outer s H E) (defBody (top 53)) (tS (P1 K) K (fun cls d _ H => E cls d H) (B39 call)) := by
  have hr0 := hr.mono (Nat.le_succ k)
  have hu := Room.h64 hr
  have hu1 := Room.h1 hr
  have nd := sc39.nd
  have hp : PassesOwn (model Pg w) _ (cxOf (L2.CX Pg w) Pg w K mg base ["draft", "told", "name", "off", "put"] "add_deed" (defScope (top 53)) (f 39) cdv A outer s H E).env (cxOf (L2.CX Pg w) Pg w K mg base ["draft", "told", "name", "off", "put"] "add_deed" (defScope (top 53)) (f 39) cdv A outer s H E).xe := passes_of rfl
  have tk : Takes (cxOf (L2.CX Pg w) Pg w K mg base ["draft", "told", "name", "off", "put"] "add_deed" (defScope (top 53)) (f 39) cdv A outer s H E) (fun cls d _ H => E cls d H) := takes_of rfl rfl rfl rfl
  exact (c_cons (c_unp (s_v (i := 1) rfl (.inl rfl)) (g_tup rfl (gs_cons (g_name (vs := [2, 3, 4]) nd rfl (.inl rfl) (by decide)) (gs_cons (g_name (vs := [2, 3, 4]) nd rfl (.inl rfl) (by decide)) (gs_cons (g_name (vs := [2, 3, 4]) nd rfl (.inl rfl) (by decide)) gs_nil))))) (c_cons (c_expr (s_callH (Fs 37 (by decide)) tk hr0 (by rfl) T.g37 T.k37 T.b37 (by rfl) (by exact (al1 (al1 (al1 (al1 al0))))) (s_ac (s_ownM0 (c := 1) (mn := 0) (P1inj _) rfl C.c1 C.m36 (Fs 36 (by decide)) tk hr0 T.b36 (by rfl) (s_v (i := 0) rfl (.inl rfl))) (s_ac (s_lst s_an) (s_ac (s_v (i := 2) rfl (.inl rfl)) (s_ac (s_glob (by rfl) C.n_DEEDS_MOST) s_an)))))) (c_one (c_expr (s_append (s_fld (n := 1) (P1inj _) rfl C.a1 (s_v (i := 0) rfl (.inl rfl))) (s_ac (s_tup (s_ac (s_ix hu1 (s_v (i := 2) rfl (.inl rfl)) s_int (fun _ _ => rfl)) (s_ac (s_callH (Fs 38 (by decide)) tk hr0 (by rfl) T.g38 T.k38 T.b38 (by rfl) (by exact (al1 (al1 al0))) (s_ac (s_v (i := 0) rfl (.inl rfl)) (s_ac (s_v (i := 3) rfl (.inl rfl)) s_an))) (s_ac (s_callH (Fs 38 (by decide)) tk hr0 (by rfl) T.g38 T.k38 T.b38 (by rfl) (by exact (al1 (al1 al0))) (s_ac (s_v (i := 0) rfl (.inl rfl)) (s_ac (s_v (i := 4) rfl (.inl rfl)) s_an))) s_an)))) s_an))))))
theorem w40 (T : Tb K mg f fd) (B : Bt mg) (C : Ct K mg f) (Fs : ∀ j, j < 61 → FnOk Pg w K mg base (L2.CX Pg w) k (f j) (fd j) (psOf j) (spF (P1 K) K call j (psOf j).length)) (cdv : Value) (A : Around) (outer : List Env) (s : Shared) (H : Hp) (E : XK) (hr : Room (k + 1) (A.deeper (envOfC "done_of" (defScope (top 54)) s.heap.objs.size (f 40) cdv))) :
    PSs (cxOf (L2.CX Pg w) Pg w K mg base ["draft", "name"] "done_of" (defScope (top 54)) (f 40) cdv A outer s H E) (defBody (top 54)) (tS (P1 K) K (fun cls d _ H => E cls d H) (B40 call)) := by
  have hr0 := hr.mono (Nat.le_succ k)
  have hu := Room.h64 hr
  have hu1 := Room.h1 hr
  have nd := sc40.nd
  have hp : PassesOwn (model Pg w) _ (cxOf (L2.CX Pg w) Pg w K mg base ["draft", "name"] "done_of" (defScope (top 54)) (f 40) cdv A outer s H E).env (cxOf (L2.CX Pg w) Pg w K mg base ["draft", "name"] "done_of" (defScope (top 54)) (f 40) cdv A outer s H E).xe := passes_of rfl
  have tk : Takes (cxOf (L2.CX Pg w) Pg w K mg base ["draft", "name"] "done_of" (defScope (top 54)) (f 40) cdv A outer s H E) (fun cls d _ H => E cls d H) := takes_of rfl rfl rfl rfl
  exact (c_cons (c_if (t_in hu1 (s_ix hu1 (s_v (i := 1) rfl (.inl rfl)) s_int (fun _ _ => rfl)) (s_ownM0 (c := 1) (mn := 0) (P1inj _) rfl C.c1 C.m36 (Fs 36 (by decide)) tk hr0 T.b36 (by rfl) (s_v (i := 0) rfl (.inl rfl))) (by rfl)) (c_one (c_ret (s_tup (s_ac (s_str (by decide +kernel) (by decide)) (s_ac (s_index (s_ownM0 (c := 1) (mn := 0) (P1inj _) rfl C.c1 C.m36 (Fs 36 (by decide)) tk hr0 T.b36 (by rfl) (s_v (i := 0) rfl (.inl rfl))) (s_ac (s_ix hu1 (s_v (i := 1) rfl (.inl rfl)) s_int (fun _ _ => rfl)) s_an)) s_an))))) c_nil) (c_cons (c_if (t_notin hu1 (s_ix hu1 (s_v (i := 1) rfl (.inl rfl)) s_int (fun _ _ => rfl)) (s_fld (n := 9) (P1inj _) rfl C.a9 (s_v (i := 0) rfl (.inl rfl))) (by rfl)) (c_one (c_expr (s_callH (Fs 34 (by decide)) tk hr0 (by rfl) T.g34 T.k34 T.b34 (by rfl) (by exact (al1 (al1 al0))) (s_ac (s_ix hu1 (s_v (i := 1) rfl (.inl rfl)) s_int (fun _ _ => rfl)) (s_ac (s_str (by decide +kernel) (by decide)) s_an))))) c_nil) (c_one (c_ret (s_tup (s_ac (s_str (by decide +kernel) (by decide)) (s_ac (s_index (s_fld (n := 9) (P1inj _) rfl C.a9 (s_v (i := 0) rfl (.inl rfl))) (s_ac (s_ix hu1 (s_v (i := 1) rfl (.inl rfl)) s_int (fun _ _ => rfl)) s_an)) s_an)))))))
theorem w41 (T : Tb K mg f fd) (B : Bt mg) (C : Ct K mg f) (Fs : ∀ j, j < 61 → FnOk Pg w K mg base (L2.CX Pg w) k (f j) (fd j) (psOf j) (spF (P1 K) K call j (psOf j).length)) (cdv : Value) (A : Around) (outer : List Env) (s : Shared) (H : Hp) (E : XK) (hr : Room (k + 1) (A.deeper (envOfC "place_in" (defScope (top 55)) s.heap.objs.size (f 41) cdv))) :
    PSs (cxOf (L2.CX Pg w) Pg w K mg base ["statement"] "place_in" (defScope (top 55)) (f 41) cdv A outer s H E) (defBody (top 55)) (tS (P1 K) K (fun cls d _ H => E cls d H) (B41 call)) := by
  have hr0 := hr.mono (Nat.le_succ k)
  have hu := Room.h64 hr
  have hu1 := Room.h1 hr
  have nd := sc41.nd
  have hp : PassesOwn (model Pg w) _ (cxOf (L2.CX Pg w) Pg w K mg base ["statement"] "place_in" (defScope (top 55)) (f 41) cdv A outer s H E).env (cxOf (L2.CX Pg w) Pg w K mg base ["statement"] "place_in" (defScope (top 55)) (f 41) cdv A outer s H E).xe := passes_of rfl
  have tk : Takes (cxOf (L2.CX Pg w) Pg w K mg base ["statement"] "place_in" (defScope (top 55)) (f 41) cdv A outer s H E) (fun cls d _ H => E cls d H) := takes_of rfl rfl rfl rfl
  exact (c_one (c_ret (s_ite (t_eq hu (s_ix hu1 (s_v (i := 0) rfl (.inl rfl)) s_int (fun _ _ => rfl)) (s_str (by decide +kernel) (by decide))) (s_ix hu1 (s_ix hu1 (s_v (i := 0) rfl (.inl rfl)) s_int (fun _ _ => rfl)) s_int (fun _ _ => rfl)) (s_ix hu1 (s_v (i := 0) rfl (.inl rfl)) (s_neg s_int) (fun _ _ => rfl)))))
theorem w42 (T : Tb K mg f fd) (B : Bt mg) (C : Ct K mg f) (Fs : ∀ j, j < 61 → FnOk Pg w K mg base (L2.CX Pg w) k (f j) (fd j) (psOf j) (spF (P1 K) K call j (psOf j).length)) (cdv : Value) (A : Around) (outer : List Env) (s : Shared) (H : Hp) (E : XK) (hr : Room (k + 1) (A.deeper (envOfC "statement_of" (defScope (top 56)) s.heap.objs.size (f 42) cdv))) :
    PSs (cxOf (L2.CX Pg w) Pg w K mg base ["draft", "statement", "deep", "word", "where", "number", "place", "block"] "statement_of" (defScope (top 56)) (f 42) cdv A outer s H E) (defBody (top 56)) (tS (P1 K) K (fun cls d _ H => E cls d H) (B42 call)) := by
  have hr0 := hr.mono (Nat.le_succ k)
  have hu := Room.h64 hr
  have hu1 := Room.h1 hr
  have nd := sc42.nd
  have hp : PassesOwn (model Pg w) _ (cxOf (L2.CX Pg w) Pg w K mg base ["draft", "statement", "deep", "word", "where", "number", "place", "block"] "statement_of" (defScope (top 56)) (f 42) cdv A outer s H E).env (cxOf (L2.CX Pg w) Pg w K mg base ["draft", "statement", "deep", "word", "where", "number", "place", "block"] "statement_of" (defScope (top 56)) (f 42) cdv A outer s H E).xe := passes_of rfl
  have tk : Takes (cxOf (L2.CX Pg w) Pg w K mg base ["draft", "statement", "deep", "word", "where", "number", "place", "block"] "statement_of" (defScope (top 56)) (f 42) cdv A outer s H E) (fun cls d _ H => E cls d H) := takes_of rfl rfl rfl rfl
  exact (c_cons (c_set (i := 3) nd rfl (.inl rfl) (s_ix hu1 (s_v (i := 1) rfl (.inl rfl)) s_int (fun _ _ => rfl))) (c_cons (c_set (i := 4) nd rfl (.inl rfl) (s_callH (Fs 41 (by decide)) tk hr0 (by rfl) T.g41 T.k41 T.b41 (by rfl) (by exact (al1 al0)) (s_ac (s_v (i := 1) rfl (.inl rfl)) s_an))) (c_cons (c_if (w_or (t_eq hu (s_fld (n := 7) (P1inj _) rfl C.a7 (s_v (i := 0) rfl (.inr (.inl rfl)))) (s_glob (by rfl) C.n_STATEMENTS_MOST)) (w_or1 (w_and (t_in hu1 (s_v (i := 3) rfl (.inl rfl)) (s_tup (s_ac (s_str (by decide +kernel) (by decide)) (s_ac (s_str (by decide +kernel) (by decide)) (s_ac (s_str (by decide +kernel) (by decide)) s_an)))) (by rfl)) (w_and1 (t_eq hu (s_v (i := 2) rfl (.inr (.inl rfl))) (s_glob (by rfl) C.n_DEPTH_MOST)))).pt)).pt (c_one (c_expr (s_callH (Fs 34 (by decide)) tk hr0 (by rfl) T.g34 T.k34 T.b34 (by rfl) (by exact (al1 (al1 al0))) (s_ac (s_v (i := 4) rfl (.inl rfl)) (s_ac (s_str (by decide +kernel) (by decide)) s_an))))) c_nil) (c_cons (c_fldAdd (n := 7) (P1inj _) rfl C.a7 (s_v (i := 0) rfl (.inr (.inl rfl))) s_int) (c_cons (c_if (t_eq hu (s_v (i := 3) rfl (.inl rfl)) (s_str (by decide +kernel) (by decide))) (c_one (c_ret (s_callH (Fs 40 (by decide)) tk hr0 (by rfl) T.g40 T.k40 T.b40 (by rfl) (by exact (al1 (al1 al0))) (s_ac (s_v (i := 0) rfl (.inr (.inl rfl))) (s_ac (s_ix hu1 (s_v (i := 1) rfl (.inl rfl)) s_int (fun _ _ => rfl)) s_an))))) c_nil) (c_cons (c_if (t_eq hu (s_v (i := 3) rfl (.inl rfl)) (s_str (by decide +kernel) (by decide))) (c_cons (c_if (t_gt  (s_len (by rfl) B.len_ (s_ix hu1 (s_v (i := 1) rfl (.inl rfl)) s_int (fun _ _ => rfl))) (s_glob (by rfl) C.n_BODIES_MOST)) (c_one (c_expr (s_callH (Fs 34 (by decide)) tk hr0 (by rfl) T.g34 T.k34 T.b34 (by rfl) (by exact (al1 (al1 al0))) (s_ac (s_v (i := 4) rfl (.inl rfl)) (s_ac (s_str (by decide +kernel) (by decide)) s_an))))) c_nil) (c_one (c_ret (s_tup (s_ac (s_v (i := 3) rfl (.inl rfl)) (s_ac (s_tupC (by rfl) B.tuple_ (s_lc (own := [("block", 7)]) (tgOk_v (by decide)) rfl nd (i_seq (s_ix hu1 (s_v (i := 1) rfl (.inl rfl)) s_int (fun _ _ => rfl))) (blkOk_by rfl) (fun _ _ _ _ _ => (g_name (vs := [7]) nd rfl (.inl rfl) (by decide))) (fun _ _ _ _ _ => ts_nil) (fun _ _ _ _ _ => (s_callH (Fs 43 (by decide)) takes0 hr0 (by rfl) T.g43 T.k43 T.b43 (by rfl) (by exact (al1 (al1 (al1 al0)))) (s_ac (s_v (i := 0) rfl (.inr (.inl rfl))) (s_ac (s_v (i := 7) rfl (.inl rfl)) (s_ac (s_add (s_v (i := 2) rfl (.inr (.inl rfl))) s_int) s_an))))))) s_an)))))) c_nil) (c_cons (c_if (t_eq hu (s_v (i := 3) rfl (.inl rfl)) (s_str (by decide +kernel) (by decide))) (c_one (c_ret (s_tup (s_ac (s_v (i := 3) rfl (.inl rfl)) (s_ac (s_callH (Fs 43 (by decide)) tk hr0 (by rfl) T.g43 T.k43 T.b43 (by rfl) (by exact (al1 (al1 (al1 al0)))) (s_ac (s_v (i := 0) rfl (.inr (.inl rfl))) (s_ac (s_ix hu1 (s_v (i := 1) rfl (.inl rfl)) s_int (fun _ _ => rfl)) (s_ac (s_add (s_v (i := 2) rfl (.inr (.inl rfl))) s_int) s_an)))) s_an))))) c_nil) (c_cons (c_if (t_eq hu (s_v (i := 3) rfl (.inl rfl)) (s_str (by decide +kernel) (by decide))) (c_one (c_ret (s_tup (s_ac (s_v (i := 3) rfl (.inl rfl)) s_an)))) c_nil) (c_cons (c_unp (s_ix hu1 (s_v (i := 1) rfl (.inl rfl)) s_int (fun _ _ => rfl)) (g_tup rfl (gs_cons (g_name (vs := [5, 6]) nd rfl (.inl rfl) (by decide)) (gs_cons (g_name (vs := [5, 6]) nd rfl (.inl rfl) (by decide)) gs_nil)))) (c_cons (c_if (t_gt  (s_v (i := 5) rfl (.inl rfl)) (s_glob (by rfl) C.n_REPEAT_MOST)) (c_one (c_expr (s_callH (Fs 34 (by decide)) tk hr0 (by rfl) T.g34 T.k34 T.b34 (by rfl) (by exact (al1 (al1 al0))) (s_ac (s_v (i := 6) rfl (.inl rfl)) (s_ac (s_str (by decide +kernel) (by decide)) s_an))))) c_nil) (c_one (c_ret (s_tup (s_ac (s_v (i := 3) rfl (.inl rfl)) (s_ac (s_v (i := 5) rfl (.inl rfl)) (s_ac (s_callH (Fs 43 (by decide)) tk hr0 (by rfl) T.g43 T.k43 T.b43 (by rfl) (by exact (al1 (al1 (al1 al0)))) (s_ac (s_v (i := 0) rfl (.inr (.inl rfl))) (s_ac (s_ix hu1 (s_v (i := 1) rfl (.inl rfl)) s_int (fun _ _ => rfl)) (s_ac (s_add (s_v (i := 2) rfl (.inr (.inl rfl))) s_int) s_an)))) s_an))))))))))))))))
theorem w43 (T : Tb K mg f fd) (B : Bt mg) (C : Ct K mg f) (Fs : ∀ j, j < 61 → FnOk Pg w K mg base (L2.CX Pg w) k (f j) (fd j) (psOf j) (spF (P1 K) K call j (psOf j).length)) (cdv : Value) (A : Around) (outer : List Env) (s : Shared) (H : Hp) (E : XK) (hr : Room (k + 1) (A.deeper (envOfC "body_of" (defScope (top 57)) s.heap.objs.size (f 43) cdv))) :
    PSs (cxOf (L2.CX Pg w) Pg w K mg base ["draft", "block", "deep", "statement"] "body_of" (defScope (top 57)) (f 43) cdv A outer s H E) (defBody (top 57)) (tS (P1 K) K (fun cls d _ H => E cls d H) (B43 call)) := by
  have hr0 := hr.mono (Nat.le_succ k)
  have hu := Room.h64 hr
  have hu1 := Room.h1 hr
  have nd := sc43.nd
  have hp : PassesOwn (model Pg w) _ (cxOf (L2.CX Pg w) Pg w K mg base ["draft", "block", "deep", "statement"] "body_of" (defScope (top 57)) (f 43) cdv A outer s H E).env (cxOf (L2.CX Pg w) Pg w K mg base ["draft", "block", "deep", "statement"] "body_of" (defScope (top 57)) (f 43) cdv A outer s H E).xe := passes_of rfl
  have tk : Takes (cxOf (L2.CX Pg w) Pg w K mg base ["draft", "block", "deep", "statement"] "body_of" (defScope (top 57)) (f 43) cdv A outer s H E) (fun cls d _ H => E cls d H) := takes_of rfl rfl rfl rfl
  exact (c_one (c_ret (s_tupC (by rfl) B.tuple_ (s_lc (own := [("statement", 3)]) (tgOk_v (by decide)) rfl nd (i_seq (s_v (i := 1) rfl (.inl rfl))) (blkOk_by rfl) (fun _ _ _ _ _ => (g_name (vs := [3]) nd rfl (.inl rfl) (by decide))) (fun _ _ _ _ _ => ts_nil) (fun _ _ _ _ _ => (s_callH (Fs 42 (by decide)) takes0 hr0 (by rfl) T.g42 T.k42 T.b42 (by rfl) (by exact (al1 (al1 (al1 al0)))) (s_ac (s_v (i := 0) rfl (.inr (.inl rfl))) (s_ac (s_v (i := 3) rfl (.inl rfl)) (s_ac (s_v (i := 2) rfl (.inr (.inl rfl))) s_an)))))))))
theorem w44 (T : Tb K mg f fd) (B : Bt mg) (C : Ct K mg f) (Fs : ∀ j, j < 61 → FnOk Pg w K mg base (L2.CX Pg w) k (f j) (fd j) (psOf j) (spF (P1 K) K call j (psOf j).length)) (cdv : Value) (A : Around) (outer : List Env) (s : Shared) (H : Hp) (E : XK) (hr : Room (k + 1) (A.deeper (envOfC "program_of" (defScope (top 58)) s.heap.objs.size (f 44) cdv))) :
    PSs (cxOf (L2.CX Pg w) Pg w K mg base ["tree", "kinds", "deeds", "words", "draft", "name", "deed", "block", "bodies"] "program_of" (defScope (top 58)) (f 44) cdv A outer s H E) (defBody (top 58)) (tS (P1 K) K (fun cls d _ H => E cls d H) (B44 call)) := by
  have hr0 := hr.mono (Nat.le_succ k)
  have hu := Room.h64 hr
  have hu1 := Room.h1 hr
  have nd := sc44.nd
  have hp : PassesOwn (model Pg w) _ (cxOf (L2.CX Pg w) Pg w K mg base ["tree", "kinds", "deeds", "words", "draft", "name", "deed", "block", "bodies"] "program_of" (defScope (top 58)) (f 44) cdv A outer s H E).env (cxOf (L2.CX Pg w) Pg w K mg base ["tree", "kinds", "deeds", "words", "draft", "name", "deed", "block", "bodies"] "program_of" (defScope (top 58)) (f 44) cdv A outer s H E).xe := passes_of rfl
  have tk : Takes (cxOf (L2.CX Pg w) Pg w K mg base ["tree", "kinds", "deeds", "words", "draft", "name", "deed", "block", "bodies"] "program_of" (defScope (top 58)) (f 44) cdv A outer s H E) (fun cls d _ H => E cls d H) := takes_of rfl rfl rfl rfl
  exact (c_cons (c_unp (s_v (i := 0) rfl (.inl rfl)) (g_tup rfl (gs_cons (g_name (vs := [1, 2, 3]) nd rfl (.inl rfl) (by decide)) (gs_cons (g_name (vs := [1, 2, 3]) nd rfl (.inl rfl) (by decide)) (gs_cons (g_name (vs := [1, 2, 3]) nd rfl (.inl rfl) (by decide)) gs_nil))))) (c_cons (c_set (i := 4) nd rfl (.inr rfl) (s_new0 (c := 1) C.k1 (Fs 35 (by decide)) tk hr (by rfl) C.g1 T.b35 (by rfl))) (c_cons (c_for hp rfl (i_seq (s_v (i := 1) rfl (.inl rfl))) (g_name (vs := [5]) nd rfl (.inl rfl) (by decide)) (c_cons (c_expr (s_callH (Fs 37 (by decide)) tk hr0 (by rfl) T.g37 T.k37 T.b37 (by rfl) (by exact (al1 (al1 (al1 (al1 al0))))) (s_ac (s_fld (n := 5) (P1inj _) rfl C.a5 (s_v (i := 4) rfl (.inr (.inl rfl)))) (s_ac (s_lst s_an) (s_ac (s_v (i := 5) rfl (.inl rfl)) (s_ac (s_glob (by rfl) C.n_KINDS_MOST) s_an)))))) (c_one (c_expr (s_append (s_fld (n := 5) (P1inj _) rfl C.a5 (s_v (i := 4) rfl (.inr (.inl rfl)))) (s_ac (s_ix hu1 (s_v (i := 5) rfl (.inl rfl)) s_int (fun _ _ => rfl)) s_an)))))) (c_cons (c_for hp rfl (i_seq (s_v (i := 2) rfl (.inl rfl))) (g_name (vs := [6]) nd rfl (.inl rfl) (by decide)) (c_one (c_expr (s_callH (Fs 39 (by decide)) tk hr0 (by rfl) T.g39 T.k39 T.b39 (by rfl) (by exact (al1 (al1 al0))) (s_ac (s_v (i := 4) rfl (.inr (.inl rfl))) (s_ac (s_v (i := 6) rfl (.inl rfl)) s_an)))))) (c_cons (c_for hp rfl (i_seq (s_v (i := 3) rfl (.inl rfl))) (g_tup rfl (gs_cons (g_name (vs := [5, 7]) nd rfl (.inl rfl) (by decide)) (gs_cons (g_name (vs := [5, 7]) nd rfl (.inl rfl) (by decide)) gs_nil))) (c_cons (c_expr (s_callH (Fs 37 (by decide)) tk hr0 (by rfl) T.g37 T.k37 T.b37 (by rfl) (by exact (al1 (al1 (al1 (al1 al0))))) (s_ac (s_fld (n := 9) (P1inj _) rfl C.a9 (s_v (i := 4) rfl (.inr (.inl rfl)))) (s_ac (s_ownM0 (c := 1) (mn := 0) (P1inj _) rfl C.c1 C.m36 (Fs 36 (by decide)) tk hr0 T.b36 (by rfl) (s_v (i := 4) rfl (.inr (.inl rfl)))) (s_ac (s_v (i := 5) rfl (.inl rfl)) (s_ac (s_glob (by rfl) C.n_WORDS_MOST) s_an)))))) (c_one (c_expr (s_append (s_fld (n := 9) (P1inj _) rfl C.a9 (s_v (i := 4) rfl (.inr (.inl rfl)))) (s_ac (s_ix hu1 (s_v (i := 5) rfl (.inl rfl)) s_int (fun _ _ => rfl)) s_an)))))) (c_cons (c_setLc (i := 8) (own := [("name", 5), ("block", 7)]) (tgOk_t (List.forall_mem_cons.mpr ⟨(tgOk_v (by decide)), (List.forall_mem_cons.mpr ⟨(tgOk_v (by decide)), List.forall_mem_nil _⟩)⟩)) rfl nd rfl rfl (sw_true rfl rfl rfl rfl) (i_seq (s_v (i := 3) rfl (.inl rfl))) (blkOk_by rfl) (fun _ _ _ _ _ => (g_tup rfl (gs_cons (g_name (vs := [5, 7]) nd rfl (.inl rfl) (by decide)) (gs_cons (g_name (vs := [5, 7]) nd rfl (.inl rfl) (by decide)) gs_nil)))) (fun _ _ _ _ _ => ts_nil) (fun _ _ _ _ _ => (s_callH (Fs 43 (by decide)) takes0 hr0 (by rfl) T.g43 T.k43 T.b43 (by rfl) (by exact (al1 (al1 (al1 al0)))) (s_ac (s_v (i := 4) rfl (.inr (.inl rfl))) (s_ac (s_v (i := 7) rfl (.inl rfl)) (s_ac s_int s_an)))))) (c_cons (c_if (t_notin hu1 (s_str (by decide +kernel) (by decide)) (s_fld (n := 9) (P1inj _) rfl C.a9 (s_v (i := 4) rfl (.inr (.inl rfl)))) (by rfl)) (c_one c_bad) c_nil) (c_one (c_ret (s_tup (s_ac (s_tupC (by rfl) B.tuple_ (s_fld (n := 5) (P1inj _) rfl C.a5 (s_v (i := 4) rfl (.inr (.inl rfl))))) (s_ac (s_tupC (by rfl) B.tuple_ (s_fld (n := 1) (P1inj _) rfl C.a1 (s_v (i := 4) rfl (.inr (.inl rfl))))) (s_ac (s_tupC (by rfl) B.tuple_ (s_fld (n := 9) (P1inj _) rfl C.a9 (s_v (i := 4) rfl (.inr (.inl rfl))))) (s_ac (s_tupC (by rfl) B.tuple_ (s_v (i := 8) rfl (.inl rfl))) s_an))))))))))))))
theorem w45 (T : Tb K mg f fd) (B : Bt mg) (C : Ct K mg f) (Fs : ∀ j, j < 61 → FnOk Pg w K mg base (L2.CX Pg w) k (f j) (fd j) (psOf j) (spF (P1 K) K call j (psOf j).length)) (cdv : Value) (A : Around) (outer : List Env) (s : Shared) (H : Hp) (E : XK) (hr : Room (k + 1) (A.deeper (envOfC "read_source" (defScope (top 59)) s.heap.objs.size (f 45) cdv))) :
    PSs (cxOf (L2.CX Pg w) Pg w K mg base ["text"] "read_source" (defScope (top 59)) (f 45) cdv A outer s H E) (defBody (top 59)) (tS (P1 K) K (fun cls d _ H => E cls d H) (B45 call)) := by
  have hr0 := hr.mono (Nat.le_succ k)
  have hu := Room.h64 hr
  have hu1 := Room.h1 hr
  have nd := sc45.nd
  have hp : PassesOwn (model Pg w) _ (cxOf (L2.CX Pg w) Pg w K mg base ["text"] "read_source" (defScope (top 59)) (f 45) cdv A outer s H E).env (cxOf (L2.CX Pg w) Pg w K mg base ["text"] "read_source" (defScope (top 59)) (f 45) cdv A outer s H E).xe := passes_of rfl
  have tk : Takes (cxOf (L2.CX Pg w) Pg w K mg base ["text"] "read_source" (defScope (top 59)) (f 45) cdv A outer s H E) (fun cls d _ H => E cls d H) := takes_of rfl rfl rfl rfl
  exact (c_one (c_ret (s_callH (Fs 44 (by decide)) tk hr0 (by rfl) T.g44 T.k44 T.b44 (by rfl) (by exact (al1 al0)) (s_ac (s_callH (Fs 33 (by decide)) tk hr0 (by rfl) T.g33 T.k33 T.b33 (by rfl) (by exact (al1 al0)) (s_ac (s_v (i := 0) rfl (.inl rfl)) s_an)) s_an))))
theorem w46 (T : Tb K mg f fd) (B : Bt mg) (C : Ct K mg f) (Fs : ∀ j, j < 61 → FnOk Pg w K mg base (L2.CX Pg w) k (f j) (fd j) (psOf j) (spF (P1 K) K call j (psOf j).length)) (cdv : Value) (A : Around) (outer : List Env) (s : Shared) (H : Hp) (E : XK) (hr : Room (k + 1) (A.deeper (envOfC "_law_box" (defScope (top 61)) s.heap.objs.size (f 46) cdv))) :
    PSs (cxOf (L2.CX Pg w) Pg w K mg base ["script", "great", "mixed", "cell", "size", "leans", "place"] "_law_box" (defScope (top 61)) (f 46) cdv A outer s H E) (defBody (top 61)) (tS (P1 K) K (fun cls d _ H => E cls d H) (B46 call)) := by
  have hr0 := hr.mono (Nat.le_succ k)
  have hu := Room.h64 hr
  have hu1 := Room.h1 hr
  have nd := sc46.nd
  have hp : PassesOwn (model Pg w) _ (cxOf (L2.CX Pg w) Pg w K mg base ["script", "great", "mixed", "cell", "size", "leans", "place"] "_law_box" (defScope (top 61)) (f 46) cdv A outer s H E).env (cxOf (L2.CX Pg w) Pg w K mg base ["script", "great", "mixed", "cell", "size", "leans", "place"] "_law_box" (defScope (top 61)) (f 46) cdv A outer s H E).xe := passes_of rfl
  have tk : Takes (cxOf (L2.CX Pg w) Pg w K mg base ["script", "great", "mixed", "cell", "size", "leans", "place"] "_law_box" (defScope (top 61)) (f 46) cdv A outer s H E) (fun cls d _ H => E cls d H) := takes_of rfl rfl rfl rfl
  exact (c_cons (c_set (i := 1) nd rfl (.inl rfl) (s_lst s_an)) (c_cons (c_set (i := 2) nd rfl (.inl rfl) s_int) (c_cons (c_for hp rfl (i_seq (s_sl (s_v (i := 0) rfl (.inl rfl)) o_none (o_some s_int))) (g_name (vs := [3]) nd rfl (.inl rfl) (by decide)) (c_cons (c_set (i := 4) nd rfl (.inl rfl) (s_mod (s_abs (by rfl) B.abs_ (s_intC (by rfl) B.int_ (s_v (i := 3) rfl (.inl rfl)))) (s_shl s_int s_int))) (c_cons (c_set (i := 2) nd rfl (.inl rfl) (s_mod (s_intC (by rfl) B.int_ (s_add (s_add (s_add (s_mul (s_v (i := 2) rfl (.inl rfl)) s_int) (s_mul (s_mod (s_v (i := 4) rfl (.inl rfl)) s_int) s_int)) (s_intC (by rfl) B.int_ (s_lt  (s_intC (by rfl) B.int_ (s_v (i := 3) rfl (.inl rfl))) s_int))) s_int)) s_int)) (c_one (c_if (t_ge  (s_v (i := 4) rfl (.inl rfl)) (s_pow s_int s_int)) (c_one (c_set (i := 1) nd rfl (.inl rfl) (s_add (s_lst (s_ac (s_v (i := 4) rfl (.inl rfl)) s_an)) (s_v (i := 1) rfl (.inl rfl))))) c_nil))))) (c_cons (c_set (i := 5) nd rfl (.inl rfl) (s_lst s_an)) (c_cons (c_for hp rfl (i_rng1 (by rfl) B.range_ s_int) (g_name (vs := [6]) nd rfl (.inl rfl) (by decide)) (c_cons (c_set (i := 2) nd rfl (.inl rfl) (s_mod (s_intC (by rfl) B.int_ (s_add (s_add (s_mul (s_v (i := 2) rfl (.inl rfl)) s_int) (s_mul s_int (s_v (i := 6) rfl (.inl rfl)))) s_int)) s_int)) (c_one (c_expr (s_append (s_v (i := 5) rfl (.inl rfl)) (s_ac (s_mod (s_intC (by rfl) B.int_ (s_div (s_v (i := 2) rfl (.inl rfl)) s_int)) s_int) s_an)))))) (c_one (c_ret (s_lst (s_ac (s_v (i := 1) rfl (.inl rfl)) (s_ac (s_v (i := 2) rfl (.inl rfl)) (s_ac s_int (s_ac (s_v (i := 5) rfl (.inl rfl)) s_an))))))))))))
theorem w47 (T : Tb K mg f fd) (B : Bt mg) (C : Ct K mg f) (Fs : ∀ j, j < 61 → FnOk Pg w K mg base (L2.CX Pg w) k (f j) (fd j) (psOf j) (spF (P1 K) K call j (psOf j).length)) (cdv : Value) (A : Around) (outer : List Env) (s : Shared) (H : Hp) (E : XK) (hr : Room (k + 1) (A.deeper (envOfC "_law_pick" (defScope (top 62)) s.heap.objs.size (f 47) cdv))) :
    PSs (cxOf (L2.CX Pg w) Pg w K mg base ["box", "place", "many", "size", "lean"] "_law_pick" (defScope (top 62)) (f 47) cdv A outer s H E) (defBody (top 62)) (tS (P1 K) K (fun cls d _ H => E cls d H) (B47 call)) := by
  have hr0 := hr.mono (Nat.le_succ k)
  have hu := Room.h64 hr
  have hu1 := Room.h1 hr
  have nd := sc47.nd
  have hp : PassesOwn (model Pg w) _ (cxOf (L2.CX Pg w) Pg w K mg base ["box", "place", "many", "size", "lean"] "_law_pick" (defScope (top 62)) (f 47) cdv A outer s H E).env (cxOf (L2.CX Pg w) Pg w K mg base ["box", "place", "many", "size", "lean"] "_law_pick" (defScope (top 62)) (f 47) cdv A outer s H E).xe := passes_of rfl
  have tk : Takes (cxOf (L2.CX Pg w) Pg w K mg base ["box", "place", "many", "size", "lean"] "_law_pick" (defScope (top 62)) (f 47) cdv A outer s H E) (fun cls d _ H => E cls d H) := takes_of rfl rfl rfl rfl
  exact (c_cons (c_put hu1 (s_v (i := 0) rfl (.inl rfl)) s_int (s_add (s_ix hu1 (s_v (i := 0) rfl (.inl rfl)) s_int (fun _ _ => rfl)) s_int)) (c_cons (c_if (t_tr (s_ix hu1 (s_v (i := 0) rfl (.inl rfl)) s_int (fun _ _ => rfl))) (c_cons (c_set (i := 3) nd rfl (.inl rfl) (s_intC (by rfl) B.int_ (s_pop0 (s_ix hu1 (s_v (i := 0) rfl (.inl rfl)) s_int (fun _ _ => rfl))))) (c_cons (c_if (t_ge  (s_v (i := 3) rfl (.inl rfl)) (s_v (i := 2) rfl (.inl rfl))) (c_one (c_expr (s_append (s_ix hu1 (s_v (i := 0) rfl (.inl rfl)) s_int (fun _ _ => rfl)) (s_ac (s_div (s_v (i := 3) rfl (.inl rfl)) (s_v (i := 2) rfl (.inl rfl))) s_an)))) c_nil) (c_one (c_ret (s_mod (s_v (i := 3) rfl (.inl rfl)) (s_v (i := 2) rfl (.inl rfl))))))) c_nil) (c_cons (c_put hu1 (s_v (i := 0) rfl (.inl rfl)) s_int (s_mod (s_intC (by rfl) B.int_ (s_add (s_add (s_mul (s_ix hu1 (s_v (i := 0) rfl (.inl rfl)) s_int (fun _ _ => rfl)) s_int) (s_mul (s_ix hu1 (s_v (i := 0) rfl (.inl rfl)) s_int (fun _ _ => rfl)) s_int)) (s_v (i := 1) rfl (.inl rfl)))) s_int)) (c_cons (c_set (i := 4) nd rfl (.inl rfl) (s_ix hu1 (s_ix hu1 (s_v (i := 0) rfl (.inl rfl)) s_int (fun _ _ => rfl)) (s_v (i := 1) rfl (.inl rfl)) (fun _ _ => rfl))) (c_cons (c_if (t_lt  (s_v (i := 4) rfl (.inl rfl)) s_int) (c_one (c_ret s_int)) c_nil) (c_cons (c_if (t_lt  (s_v (i := 4) rfl (.inl rfl)) s_int) (c_one (c_ret (s_sub (s_v (i := 2) rfl (.inl rfl)) s_int))) c_nil) (c_cons (c_if (t_lt  (s_v (i := 4) rfl (.inl rfl)) s_int) (c_one (c_ret (s_mod (s_intC (by rfl) B.int_ (s_add (s_mul (s_v (i := 4) rfl (.inl rfl)) s_int) s_int)) (s_v (i := 2) rfl (.inl rfl))))) c_nil) (c_one (c_ret (s_mod (s_intC (by rfl) B.int_ (s_div (s_ix hu1 (s_v (i := 0) rfl (.inl rfl)) s_int (fun _ _ => rfl)) s_int)) (s_v (i := 2) rfl (.inl rfl))))))))))))
theorem w48 (T : Tb K mg f fd) (B : Bt mg) (C : Ct K mg f) (Fs : ∀ j, j < 61 → FnOk Pg w K mg base (L2.CX Pg w) k (f j) (fd j) (psOf j) (spF (P1 K) K call j (psOf j).length)) (cdv : Value) (A : Around) (outer : List Env) (s : Shared) (H : Hp) (E : XK) (hr : Room (k + 1) (A.deeper (envOfC "_law_deeds" (defScope (top 63)) s.heap.objs.size (f 48) cdv))) :
    PSs (cxOf (L2.CX Pg w) Pg w K mg base ["box", "many", "kinds", "rows", "k", "off", "on", "lap"] "_law_deeds" (defScope (top 63)) (f 48) cdv A outer s H E) (defBody (top 63)) (tS (P1 K) K (fun cls d _ H => E cls d H) (B48 call)) := by
  have hr0 := hr.mono (Nat.le_succ k)
  have hu := Room.h64 hr
  have hu1 := Room.h1 hr
  have nd := sc48.nd
  have hp : PassesOwn (model Pg w) _ (cxOf (L2.CX Pg w) Pg w K mg base ["box", "many", "kinds", "rows", "k", "off", "on", "lap"] "_law_deeds" (defScope (top 63)) (f 48) cdv A outer s H E).env (cxOf (L2.CX Pg w) Pg w K mg base ["box", "many", "kinds", "rows", "k", "off", "on", "lap"] "_law_deeds" (defScope (top 63)) (f 48) cdv A outer s H E).xe := passes_of rfl
  have tk : Takes (cxOf (L2.CX Pg w) Pg w K mg base ["box", "many", "kinds", "rows", "k", "off", "on", "lap"] "_law_deeds" (defScope (top 63)) (f 48) cdv A outer s H E) (fun cls d _ H => E cls d H) := takes_of rfl rfl rfl rfl
  exact (c_cons (c_set (i := 3) nd rfl (.inl rfl) (s_lst s_an)) (c_cons (c_for hp rfl (i_rng1 (by rfl) B.range_ (s_v (i := 1) rfl (.inl rfl))) (g_name (vs := [4]) nd rfl (.inl rfl) (by decide)) (c_cons (c_set (i := 5) nd rfl (.inl rfl) (s_tupC (by rfl) B.tuple_ (s_lc (own := [("lap", 7)]) (tgOk_v (by decide)) rfl nd (i_rng1 (by rfl) B.range_ (s_ix hu1 (s_tup (s_ac s_int (s_ac s_int (s_ac s_int (s_ac s_int (s_ac s_int s_an)))))) (s_callH (Fs 47 (by decide)) tk hr0 (by rfl) T.g47 T.k47 T.b47 (by rfl) (by exact (al1 (al1 (al1 al0)))) (s_ac (s_v (i := 0) rfl (.inr (.inl rfl))) (s_ac s_int (s_ac s_int s_an)))) (fun _ _ => rfl))) (blkOk_by rfl) (fun _ _ _ _ _ => (g_name (vs := [7]) nd rfl (.inl rfl) (by decide))) (fun _ _ _ _ _ => ts_nil) (fun _ _ _ _ _ => (s_callH (Fs 47 (by decide)) takes0 hr0 (by rfl) T.g47 T.k47 T.b47 (by rfl) (by exact (al1 (al1 (al1 al0)))) (s_ac (s_v (i := 0) rfl (.inr (.inl rfl))) (s_ac s_int (s_ac (s_v (i := 2) rfl (.inr (.inl rfl))) s_an)))))))) (c_cons (c_set (i := 6) nd rfl (.inl rfl) (s_tupC (by rfl) B.tuple_ (s_lc (own := [("lap", 7)]) (tgOk_v (by decide)) rfl nd (i_rng1 (by rfl) B.range_ (s_ix hu1 (s_tup (s_ac s_int (s_ac s_int (s_ac s_int (s_ac s_int (s_ac s_int s_an)))))) (s_callH (Fs 47 (by decide)) tk hr0 (by rfl) T.g47 T.k47 T.b47 (by rfl) (by exact (al1 (al1 (al1 al0)))) (s_ac (s_v (i := 0) rfl (.inr (.inl rfl))) (s_ac s_int (s_ac s_int s_an)))) (fun _ _ => rfl))) (blkOk_by rfl) (fun _ _ _ _ _ => (g_name (vs := [7]) nd rfl (.inl rfl) (by decide))) (fun _ _ _ _ _ => ts_nil) (fun _ _ _ _ _ => (s_callH (Fs 47 (by decide)) takes0 hr0 (by rfl) T.g47 T.k47 T.b47 (by rfl) (by exact (al1 (al1 (al1 al0)))) (s_ac (s_v (i := 0) rfl (.inr (.inl rfl))) (s_ac s_int (s_ac (s_v (i := 2) rfl (.inr (.inl rfl))) s_an)))))))) (c_one (c_expr (s_append (s_v (i := 3) rfl (.inl rfl)) (s_ac (s_tup (s_ac (s_ix hu1 (s_tup (s_ac (s_str (by decide +kernel) (by decide)) (s_ac (s_str (by decide +kernel) (by decide)) (s_ac (s_str (by decide +kernel) (by decide)) (s_ac (s_str (by decide +kernel) (by decide)) (s_ac (s_str (by decide +kernel) (by decide)) (s_ac (s_str (by decide +kernel) (by decide)) (s_ac (s_str (by decide +kernel) (by decide)) (s_ac (s_str (by decide +kernel) (by decide)) s_an))))))))) (s_v (i := 4) rfl (.inl rfl)) (fun _ _ => rfl)) (s_ac (s_v (i := 5) rfl (.inl rfl)) (s_ac (s_v (i := 6) rfl (.inl rfl)) s_an)))) s_an))))))) (c_one (c_ret (s_tupC (by rfl) B.tuple_ (s_v (i := 3) rfl (.inl rfl)))))))
theorem w49 (T : Tb K mg f fd) (B : Bt mg) (C : Ct K mg f) (Fs : ∀ j, j < 61 → FnOk Pg w K mg base (L2.CX Pg w) k (f j) (fd j) (psOf j) (spF (P1 K) K call j (psOf j).length)) (cdv : Value) (A : Around) (outer : List Env) (s : Shared) (H : Hp) (E : XK) (hr : Room (k + 1) (A.deeper (envOfC "_law_program" (defScope (top 64)) s.heap.objs.size (f 49) cdv))) :
    PSs (cxOf (L2.CX Pg w) Pg w K mg base ["box", "deeds", "kinds", "names", "bodies"] "_law_program" (defScope (top 64)) (f 49) cdv A outer s H E) (defBody (top 64)) (tS (P1 K) K (fun cls d _ H => E cls d H) (B49 call)) := by
  have hr0 := hr.mono (Nat.le_succ k)
  have hu := Room.h64 hr
  have hu1 := Room.h1 hr
  have nd := sc49.nd
  have hp : PassesOwn (model Pg w) _ (cxOf (L2.CX Pg w) Pg w K mg base ["box", "deeds", "kinds", "names", "bodies"] "_law_program" (defScope (top 64)) (f 49) cdv A outer s H E).env (cxOf (L2.CX Pg w) Pg w K mg base ["box", "deeds", "kinds", "names", "bodies"] "_law_program" (defScope (top 64)) (f 49) cdv A outer s H E).xe := passes_of rfl
  have tk : Takes (cxOf (L2.CX Pg w) Pg w K mg base ["box", "deeds", "kinds", "names", "bodies"] "_law_program" (defScope (top 64)) (f 49) cdv A outer s H E) (fun cls d _ H => E cls d H) := takes_of rfl rfl rfl rfl
  exact (c_cons (c_set (i := 3) nd rfl (.inl rfl) (s_ix hu1 (s_tup (s_ac (s_tup (s_ac (s_str (by decide +kernel) (by decide)) s_an)) (s_ac (s_tup (s_ac (s_str (by decide +kernel) (by decide)) (s_ac (s_str (by decide +kernel) (by decide)) s_an))) s_an))) (s_callH (Fs 47 (by decide)) tk hr0 (by rfl) T.g47 T.k47 T.b47 (by rfl) (by exact (al1 (al1 (al1 al0)))) (s_ac (s_v (i := 0) rfl (.inl rfl)) (s_ac s_int (s_ac s_int s_an)))) (fun _ _ => rfl))) (c_cons (c_set (i := 4) nd rfl (.inl rfl) (s_sl (s_tup (s_ac (s_tup (s_ac (s_tup (s_ac (s_str (by decide +kernel) (by decide)) (s_ac s_int s_an))) (s_ac (s_tup (s_ac (s_str (by decide +kernel) (by decide)) s_an)) s_an))) (s_ac (s_tup (s_ac (s_tup (s_ac (s_str (by decide +kernel) (by decide)) (s_ac (s_tup (s_ac (s_tup (s_ac (s_str (by decide +kernel) (by decide)) (s_ac (s_sub (s_len (by rfl) B.len_ (s_v (i := 1) rfl (.inl rfl))) s_int) s_an))) s_an)) s_an))) s_an)) s_an))) o_none (o_some (s_len (by rfl) B.len_ (s_v (i := 3) rfl (.inl rfl)))))) (c_one (c_ret (s_tup (s_ac (s_sl (s_tup (s_ac (s_str (by decide +kernel) (by decide)) (s_ac (s_str (by decide +kernel) (by decide)) (s_ac (s_str (by decide +kernel) (by decide)) s_an)))) o_none (o_some (s_v (i := 2) rfl (.inl rfl)))) (s_ac (s_v (i := 1) rfl (.inl rfl)) (s_ac (s_v (i := 3) rfl (.inl rfl)) (s_ac (s_v (i := 4) rfl (.inl rfl)) s_an)))))))))
theorem w50 (T : Tb K mg f fd) (B : Bt mg) (C : Ct K mg f) (Fs : ∀ j, j < 61 → FnOk Pg w K mg base (L2.CX Pg w) k (f j) (fd j) (psOf j) (spF (P1 K) K call j (psOf j).length)) (cdv : Value) (A : Around) (outer : List Env) (s : Shared) (H : Hp) (E : XK) (hr : Room (k + 1) (A.deeper (envOfC "_law_joined" (defScope (top 65)) s.heap.objs.size (f 50) cdv))) :
    PSs (cxOf (L2.CX Pg w) Pg w K mg base ["one", "other", "on", "off", "less"] "_law_joined" (defScope (top 65)) (f 50) cdv A outer s H E) (defBody (top 65)) (tS (P1 K) K (fun cls d _ H => E cls d H) (B50 call)) := by
  have hr0 := hr.mono (Nat.le_succ k)
  have hu := Room.h64 hr
  have hu1 := Room.h1 hr
  have nd := sc50.nd
  have hp : PassesOwn (model Pg w) _ (cxOf (L2.CX Pg w) Pg w K mg base ["one", "other", "on", "off", "less"] "_law_joined" (defScope (top 65)) (f 50) cdv A outer s H E).env (cxOf (L2.CX Pg w) Pg w K mg base ["one", "other", "on", "off", "less"] "_law_joined" (defScope (top 65)) (f 50) cdv A outer s H E).xe := passes_of rfl
  have tk : Takes (cxOf (L2.CX Pg w) Pg w K mg base ["one", "other", "on", "off", "less"] "_law_joined" (defScope (top 65)) (f 50) cdv A outer s H E) (fun cls d _ H => E cls d H) := takes_of rfl rfl rfl rfl
  exact (c_cons (c_if (w_or (t_is  (s_v (i := 0) rfl (.inl rfl)) s_non) (w_or1 (t_is  (s_v (i := 1) rfl (.inl rfl)) s_non))).pt (c_one (c_ret s_non)) c_nil) (c_cons (c_par (i := 2) (j := 3) rfl nd rfl rfl (by decide) rfl rfl (s_ac (s_ix hu1 (s_v (i := 0) rfl (.inl rfl)) s_int (fun _ _ => rfl)) (s_ac (s_ix hu1 (s_v (i := 1) rfl (.inl rfl)) s_int (fun _ _ => rfl)) s_an)) rfl) (c_cons (c_set (i := 4) nd rfl (.inl rfl) (s_min2 rfl (by rfl) B.min_ (s_len (by rfl) B.len_ (s_v (i := 2) rfl (.inl rfl))) (s_len (by rfl) B.len_ (s_v (i := 3) rfl (.inl rfl))))) (c_cons (c_if (t_ne hu (s_sl (s_v (i := 2) rfl (.inl rfl)) o_none (o_some (s_v (i := 4) rfl (.inl rfl)))) (s_sl (s_v (i := 3) rfl (.inl rfl)) o_none (o_some (s_v (i := 4) rfl (.inl rfl))))) (c_one (c_ret s_non)) c_nil) (c_one (c_ret (s_tup (s_ac (s_add (s_ix hu1 (s_v (i := 0) rfl (.inl rfl)) s_int (fun _ _ => rfl)) (s_sl (s_v (i := 3) rfl (.inl rfl)) (o_some (s_v (i := 4) rfl (.inl rfl))) o_none)) (s_ac (s_add (s_ix hu1 (s_v (i := 1) rfl (.inl rfl)) s_int (fun _ _ => rfl)) (s_sl (s_v (i := 2) rfl (.inl rfl)) (o_some (s_v (i := 4) rfl (.inl rfl))) o_none)) s_an)))))))))
theorem w51 (T : Tb K mg f fd) (B : Bt mg) (C : Ct K mg f) (Fs : ∀ j, j < 61 → FnOk Pg w K mg base (L2.CX Pg w) k (f j) (fd j) (psOf j) (spF (P1 K) K call j (psOf j).length)) (cdv : Value) (A : Around) (outer : List Env) (s : Shared) (H : Hp) (E : XK) (hr : Room (k + 1) (A.deeper (envOfC "_law_row" (defScope (top 66)) s.heap.objs.size (f 51) cdv))) :
    PSs (cxOf (L2.CX Pg w) Pg w K mg base ["deeds", "row", "told", "d"] "_law_row" (defScope (top 66)) (f 51) cdv A outer s H E) (defBody (top 66)) (tS (P1 K) K (fun cls d _ H => E cls d H) (B51 call)) := by
  have hr0 := hr.mono (Nat.le_succ k)
  have hu := Room.h64 hr
  have hu1 := Room.h1 hr
  have nd := sc51.nd
  have hp : PassesOwn (model Pg w) _ (cxOf (L2.CX Pg w) Pg w K mg base ["deeds", "row", "told", "d"] "_law_row" (defScope (top 66)) (f 51) cdv A outer s H E).env (cxOf (L2.CX Pg w) Pg w K mg base ["deeds", "row", "told", "d"] "_law_row" (defScope (top 66)) (f 51) cdv A outer s H E).xe := passes_of rfl
  have tk : Takes (cxOf (L2.CX Pg w) Pg w K mg base ["deeds", "row", "told", "d"] "_law_row" (defScope (top 66)) (f 51) cdv A outer s H E) (fun cls d _ H => E cls d H) := takes_of rfl rfl rfl rfl
  exact (c_cons (c_set (i := 2) nd rfl (.inl rfl) (s_tup (s_ac (s_tup s_an) (s_ac (s_tup s_an) s_an)))) (c_cons (c_for hp rfl (i_seq (s_v (i := 1) rfl (.inl rfl))) (g_name (vs := [3]) nd rfl (.inl rfl) (by decide)) (c_one (c_set (i := 2) nd rfl (.inl rfl) (s_callH (Fs 50 (by decide)) tk hr0 (by rfl) T.g50 T.k50 T.b50 (by rfl) (by exact (al1 (al1 al0))) (s_ac (s_v (i := 2) rfl (.inl rfl)) (s_ac (s_tup (s_ac (s_ix hu1 (s_ix hu1 (s_v (i := 0) rfl (.inl rfl)) (s_v (i := 3) rfl (.inl rfl)) (fun _ _ => rfl)) s_int (fun _ _ => rfl)) (s_ac (s_ix hu1 (s_ix hu1 (s_v (i := 0) rfl (.inl rfl)) (s_v (i := 3) rfl (.inl rfl)) (fun _ _ => rfl)) s_int (fun _ _ => rfl)) s_an))) s_an)))))) (c_one (c_ret (s_v (i := 2) rfl (.inl rfl))))))
theorem w52 (T : Tb K mg f fd) (B : Bt mg) (C : Ct K mg f) (Fs : ∀ j, j < 61 → FnOk Pg w K mg base (L2.CX Pg w) k (f j) (fd j) (psOf j) (spF (P1 K) K call j (psOf j).length)) (cdv : Value) (A : Around) (outer : List Env) (s : Shared) (H : Hp) (E : XK) (hr : Room (k + 1) (A.deeper (envOfC "_law_is_for" (defScope (top 67)) s.heap.objs.size (f 52) cdv))) :
    PSs (cxOf (L2.CX Pg w) Pg w K mg base ["told", "effect", "off", "on", "rest"] "_law_is_for" (defScope (top 67)) (f 52) cdv A outer s H E) (defBody (top 67)) (tS (P1 K) K (fun cls d _ H => E cls d H) (B52 call)) := by
  have hr0 := hr.mono (Nat.le_succ k)
  have hu := Room.h64 hr
  have hu1 := Room.h1 hr
  have nd := sc52.nd
  have hp : PassesOwn (model Pg w) _ (cxOf (L2.CX Pg w) Pg w K mg base ["told", "effect", "off", "on", "rest"] "_law_is_for" (defScope (top 67)) (f 52) cdv A outer s H E).env (cxOf (L2.CX Pg w) Pg w K mg base ["told", "effect", "off", "on", "rest"] "_law_is_for" (defScope (top 67)) (f 52) cdv A outer s H E).xe := passes_of rfl
  have tk : Takes (cxOf (L2.CX Pg w) Pg w K mg base ["told", "effect", "off", "on", "rest"] "_law_is_for" (defScope (top 67)) (f 52) cdv A outer s H E) (fun cls d _ H => E cls d H) := takes_of rfl rfl rfl rfl
  exact (c_cons (c_if (t_is  (s_v (i := 0) rfl (.inl rfl)) s_non) (c_one (c_ret s_bl)) c_nil) (c_cons (c_unp (s_v (i := 0) rfl (.inl rfl)) (g_tup rfl (gs_cons (g_name (vs := [2, 3]) nd rfl (.inl rfl) (by decide)) (gs_cons (g_name (vs := [2, 3]) nd rfl (.inl rfl) (by decide)) gs_nil)))) (c_cons (c_set (i := 4) nd rfl (.inl rfl) (s_sl (s_ix hu1 (s_v (i := 1) rfl (.inl rfl)) s_int (fun _ _ => rfl)) (o_some (s_len (by rfl) B.len_ (s_v (i := 2) rfl (.inl rfl)))) o_none)) (c_one (c_ret (s_and (s_eq hu (s_sl (s_ix hu1 (s_v (i := 1) rfl (.inl rfl)) s_int (fun _ _ => rfl)) o_none (o_some (s_len (by rfl) B.len_ (s_v (i := 2) rfl (.inl rfl))))) (s_v (i := 2) rfl (.inl rfl))) (s_one (s_eq hu (s_ix hu1 (s_v (i := 1) rfl (.inl rfl)) s_int (fun _ _ => rfl)) (s_add (s_v (i := 3) rfl (.inl rfl)) (s_v (i := 4) rfl (.inl rfl)))))))))))
theorem w53 (T : Tb K mg f fd) (B : Bt mg) (C : Ct K mg f) (Fs : ∀ j, j < 61 → FnOk Pg w K mg base (L2.CX Pg w) k (f j) (fd j) (psOf j) (spF (P1 K) K call j (psOf j).length)) (cdv : Value) (A : Around) (outer : List Env) (s : Shared) (H : Hp) (E : XK) (hr : Room (k + 1) (A.deeper (envOfC "_law_shortest" (defScope (top 68)) s.heap.objs.size (f 53) cdv))) :
    PSs (cxOf (L2.CX Pg w) Pg w K mg base ["deeds", "effect", "most", "rows", "lap", "row", "told", "longer", "d", "more"] "_law_shortest" (defScope (top 68)) (f 53) cdv A outer s H E) (defBody (top 68)) (tS (P1 K) K (fun cls d _ H => E cls d H) (B53 call)) := by
  have hr0 := hr.mono (Nat.le_succ k)
  have hu := Room.h64 hr
  have hu1 := Room.h1 hr
  have nd := sc53.nd
  have hp : PassesOwn (model Pg w) _ (cxOf (L2.CX Pg w) Pg w K mg base ["deeds", "effect", "most", "rows", "lap", "row", "told", "longer", "d", "more"] "_law_shortest" (defScope (top 68)) (f 53) cdv A outer s H E).env (cxOf (L2.CX Pg w) Pg w K mg base ["deeds", "effect", "most", "rows", "lap", "row", "told", "longer", "d", "more"] "_law_shortest" (defScope (top 68)) (f 53) cdv A outer s H E).xe := passes_of rfl
  have tk : Takes (cxOf (L2.CX Pg w) Pg w K mg base ["deeds", "effect", "most", "rows", "lap", "row", "told", "longer", "d", "more"] "_law_shortest" (defScope (top 68)) (f 53) cdv A outer s H E) (fun cls d _ H => E cls d H) := takes_of rfl rfl rfl rfl
  exact (c_cons (c_set (i := 3) nd rfl (.inl rfl) (s_lst (s_ac (s_tup (s_ac (s_tup s_an) (s_ac (s_tup (s_ac (s_tup s_an) (s_ac (s_tup s_an) s_an))) s_an))) s_an))) (c_cons (c_for hp rfl (i_rng1 (by rfl) B.range_ (s_add (s_v (i := 2) rfl (.inl rfl)) s_int)) (g_name (vs := [4]) nd rfl (.inl rfl) (by decide)) (c_cons (c_for hp rfl (i_seq (s_v (i := 3) rfl (.inl rfl))) (g_tup rfl (gs_cons (g_name (vs := [5, 6]) nd rfl (.inl rfl) (by decide)) (gs_cons (g_name (vs := [5, 6]) nd rfl (.inl rfl) (by decide)) gs_nil))) (c_one (c_if (t_tr (s_callH (Fs 52 (by decide)) tk hr0 (by rfl) T.g52 T.k52 T.b52 (by rfl) (by exact (al1 (al1 al0))) (s_ac (s_v (i := 6) rfl (.inl rfl)) (s_ac (s_v (i := 1) rfl (.inl rfl)) s_an)))) (c_one (c_ret (s_v (i := 5) rfl (.inl rfl)))) c_nil))) (c_cons (c_set (i := 7) nd rfl (.inl rfl) (s_lst s_an)) (c_cons (c_for hp rfl (i_seq (s_ite (t_lt  (s_v (i := 4) rfl (.inl rfl)) (s_v (i := 2) rfl (.inl rfl))) (s_v (i := 3) rfl (.inl rfl)) (s_lst s_an))) (g_tup rfl (gs_cons (g_name (vs := [5, 6]) nd rfl (.inl rfl) (by decide)) (gs_cons (g_name (vs := [5, 6]) nd rfl (.inl rfl) (by decide)) gs_nil))) (c_one (c_for hp rfl (i_rng1 (by rfl) B.range_ (s_len (by rfl) B.len_ (s_v (i := 0) rfl (.inl rfl)))) (g_name (vs := [8]) nd rfl (.inl rfl) (by decide)) (c_cons (c_set (i := 9) nd rfl (.inl rfl) (s_callH (Fs 50 (by decide)) tk hr0 (by rfl) T.g50 T.k50 T.b50 (by rfl) (by exact (al1 (al1 al0))) (s_ac (s_v (i := 6) rfl (.inl rfl)) (s_ac (s_tup (s_ac (s_ix hu1 (s_ix hu1 (s_v (i := 0) rfl (.inl rfl)) (s_v (i := 8) rfl (.inl rfl)) (fun _ _ => rfl)) s_int (fun _ _ => rfl)) (s_ac (s_ix hu1 (s_ix hu1 (s_v (i := 0) rfl (.inl rfl)) (s_v (i := 8) rfl (.inl rfl)) (fun _ _ => rfl)) s_int (fun _ _ => rfl)) s_an))) s_an)))) (c_one (c_if (t_isnt  (s_v (i := 9) rfl (.inl rfl)) s_non) (c_one (c_expr (s_append (s_v (i := 7) rfl (.inl rfl)) (s_ac (s_tup (s_ac (s_add (s_v (i := 5) rfl (.inl rfl)) (s_tup (s_ac (s_v (i := 8) rfl (.inl rfl)) s_an))) (s_ac (s_v (i := 9) rfl (.inl rfl)) s_an))) s_an)))) c_nil)))))) (c_one (c_set (i := 3) nd rfl (.inl rfl) (s_v (i := 7) rfl (.inl rfl)))))))) (c_one (c_ret s_non))))
theorem w54 (T : Tb K mg f fd) (B : Bt mg) (C : Ct K mg f) (Fs : ∀ j, j < 61 → FnOk Pg w K mg base (L2.CX Pg w) k (f j) (fd j) (psOf j) (spF (P1 K) K call j (psOf j).length)) (cdv : Value) (A : Around) (outer : List Env) (s : Shared) (H : Hp) (E : XK) (hr : Room (k + 1) (A.deeper (envOfC "_law_same" (defScope (top 69)) s.heap.objs.size (f 54) cdv))) :
    PSs (cxOf (L2.CX Pg w) Pg w K mg base ["told", "due", "todo", "one", "other", "at"] "_law_same" (defScope (top 69)) (f 54) cdv A outer s H E) (defBody (top 69)) (tS (P1 K) K (fun cls d _ H => E cls d H) (B54 call)) := by
  have hr0 := hr.mono (Nat.le_succ k)
  have hu := Room.h64 hr
  have hu1 := Room.h1 hr
  have nd := sc54.nd
  have hp : PassesOwn (model Pg w) _ (cxOf (L2.CX Pg w) Pg w K mg base ["told", "due", "todo", "one", "other", "at"] "_law_same" (defScope (top 69)) (f 54) cdv A outer s H E).env (cxOf (L2.CX Pg w) Pg w K mg base ["told", "due", "todo", "one", "other", "at"] "_law_same" (defScope (top 69)) (f 54) cdv A outer s H E).xe := passes_of rfl
  have tk : Takes (cxOf (L2.CX Pg w) Pg w K mg base ["told", "due", "todo", "one", "other", "at"] "_law_same" (defScope (top 69)) (f 54) cdv A outer s H E) (fun cls d _ H => E cls d H) := takes_of rfl rfl rfl rfl
  exact (c_cons (c_set (i := 2) nd rfl (.inl rfl) (s_lst (s_ac (s_tup (s_ac (s_v (i := 0) rfl (.inl rfl)) (s_ac (s_v (i := 1) rfl (.inl rfl)) s_an))) s_an))) (c_cons (c_while hp (t_tr (s_v (i := 2) rfl (.inl rfl))) (c_cons (c_unp (s_pop0 (s_v (i := 2) rfl (.inl rfl))) (g_tup rfl (gs_cons (g_name (vs := [3, 4]) nd rfl (.inr rfl) (by decide)) (gs_cons (g_name (vs := [3, 4]) nd rfl (.inr rfl) (by decide)) gs_nil)))) (c_one (c_if (t_tr (s_isiTup (by rfl) B.isinstance_ (by rfl) B.tuple_ (s_v (i := 4) rfl (.inr (.inl rfl))))) (c_cons (c_if (w_or (t_not (t_tr (s_isiTup (by rfl) B.isinstance_ (by rfl) B.tuple_ (s_v (i := 3) rfl (.inr (.inl rfl)))))) (w_or1 (t_ne hu (s_len (by rfl) B.len_ (s_v (i := 3) rfl (.inr (.inl rfl)))) (s_len (by rfl) B.len_ (s_v (i := 4) rfl (.inr (.inl rfl))))))).pt (c_one (c_ret s_bl)) c_nil) (c_one (c_expr (s_extend (s_v (i := 2) rfl (.inl rfl)) (s_ac (s_lc (own := [("at", 5)]) (tgOk_v (by decide)) rfl nd (i_rng1 (by rfl) B.range_ (s_len (by rfl) B.len_ (s_v (i := 4) rfl (.inr (.inl rfl))))) (blkOk_by rfl) (fun _ _ _ _ _ => (g_name (vs := [5]) nd rfl (.inl rfl) (by decide))) (fun _ _ _ _ _ => ts_nil) (fun _ _ _ _ _ => (s_tup (s_ac (s_ix hu1 (s_v (i := 3) rfl (.inr (.inl rfl))) (s_v (i := 5) rfl (.inl rfl)) (fun _ _ => rfl)) (s_ac (s_ix hu1 (s_v (i := 4) rfl (.inr (.inl rfl))) (s_v (i := 5) rfl (.inl rfl)) (fun _ _ => rfl)) s_an))))) s_an))))) (c_one (c_if (t_is  (s_v (i := 4) rfl (.inr (.inl rfl))) s_non) (c_one (c_if (t_isnt  (s_v (i := 3) rfl (.inr (.inl rfl))) s_non) (c_one (c_ret s_bl)) c_nil)) (c_one (c_if (w_or (t_not (t_tr (s_isiInt (by rfl) B.isinstance_ (by rfl) B.int_ (s_v (i := 3) rfl (.inr (.inl rfl)))))) (w_or (t_tr (s_isiBool (by rfl) B.isinstance_ (by rfl) B.bool_ (s_v (i := 3) rfl (.inr (.inl rfl))))) (w_or1 (t_ne hu (s_v (i := 3) rfl (.inr (.inl rfl))) (s_v (i := 4) rfl (.inr (.inl rfl))))))).pt (c_one (c_ret s_bl)) c_nil)))))))) (c_one (c_ret s_bl))))
theorem w55 (T : Tb K mg f fd) (B : Bt mg) (C : Ct K mg f) (Fs : ∀ j, j < 61 → FnOk Pg w K mg base (L2.CX Pg w) k (f j) (fd j) (psOf j) (spF (P1 K) K call j (psOf j).length)) (cdv : Value) (A : Around) (outer : List Env) (s : Shared) (H : Hp) (E : XK) (hr : Room (k + 1) (A.deeper (envOfC "_law_bool" (defScope (top 70)) s.heap.objs.size (f 55) cdv))) :
    PSs (cxOf (L2.CX Pg w) Pg w K mg base ["told", "due"] "_law_bool" (defScope (top 70)) (f 55) cdv A outer s H E) (defBody (top 70)) (tS (P1 K) K (fun cls d _ H => E cls d H) (B55 call)) := by
  have hr0 := hr.mono (Nat.le_succ k)
  have hu := Room.h64 hr
  have hu1 := Room.h1 hr
  have nd := sc55.nd
  have hp : PassesOwn (model Pg w) _ (cxOf (L2.CX Pg w) Pg w K mg base ["told", "due"] "_law_bool" (defScope (top 70)) (f 55) cdv A outer s H E).env (cxOf (L2.CX Pg w) Pg w K mg base ["told", "due"] "_law_bool" (defScope (top 70)) (f 55) cdv A outer s H E).xe := passes_of rfl
  have tk : Takes (cxOf (L2.CX Pg w) Pg w K mg base ["told", "due"] "_law_bool" (defScope (top 70)) (f 55) cdv A outer s H E) (fun cls d _ H => E cls d H) := takes_of rfl rfl rfl rfl
  exact (c_one (c_ret (s_and (s_isiBool (by rfl) B.isinstance_ (by rfl) B.bool_ (s_v (i := 0) rfl (.inl rfl))) (s_one (s_eq hu (s_v (i := 0) rfl (.inl rfl)) (s_v (i := 1) rfl (.inl rfl)))))))
theorem w56 (T : Tb K mg f fd) (B : Bt mg) (C : Ct K mg f) (Fs : ∀ j, j < 61 → FnOk Pg w K mg base (L2.CX Pg w) k (f j) (fd j) (psOf j) (spF (P1 K) K call j (psOf j).length)) (cdv : Value) (A : Around) (outer : List Env) (s : Shared) (H : Hp) (E : XK) (hr : Room (k + 1) (A.deeper (envOfC "_law_drawn_row" (defScope (top 71)) s.heap.objs.size (f 56) cdv))) :
    PSs (cxOf (L2.CX Pg w) Pg w K mg base ["box", "deeds", "most", "row", "told", "lap", "some", "d"] "_law_drawn_row" (defScope (top 71)) (f 56) cdv A outer s H E) (defBody (top 71)) (tS (P1 K) K (fun cls d _ H => E cls d H) (B56 call)) := by
  have hr0 := hr.mono (Nat.le_succ k)
  have hu := Room.h64 hr
  have hu1 := Room.h1 hr
  have nd := sc56.nd
  have hp : PassesOwn (model Pg w) _ (cxOf (L2.CX Pg w) Pg w K mg base ["box", "deeds", "most", "row", "told", "lap", "some", "d"] "_law_drawn_row" (defScope (top 71)) (f 56) cdv A outer s H E).env (cxOf (L2.CX Pg w) Pg w K mg base ["box", "deeds", "most", "row", "told", "lap", "some", "d"] "_law_drawn_row" (defScope (top 71)) (f 56) cdv A outer s H E).xe := passes_of rfl
  have tk : Takes (cxOf (L2.CX Pg w) Pg w K mg base ["box", "deeds", "most", "row", "told", "lap", "some", "d"] "_law_drawn_row" (defScope (top 71)) (f 56) cdv A outer s H E) (fun cls d _ H => E cls d H) := takes_of rfl rfl rfl rfl
  exact (c_cons (c_set (i := 3) nd rfl (.inl rfl) (s_tup s_an)) (c_cons (c_set (i := 4) nd rfl (.inr rfl) (s_tup (s_ac (s_tup s_an) (s_ac (s_tup s_an) s_an)))) (c_cons (c_for hp rfl (i_rng1 (by rfl) B.range_ (s_callH (Fs 47 (by decide)) tk hr0 (by rfl) T.g47 T.k47 T.b47 (by rfl) (by exact (al1 (al1 (al1 al0)))) (s_ac (s_v (i := 0) rfl (.inl rfl)) (s_ac s_int (s_ac (s_add (s_v (i := 2) rfl (.inl rfl)) s_int) s_an))))) (g_name (vs := [5]) nd rfl (.inl rfl) (by decide)) (c_cons (c_setLc (i := 6) (own := [("d", 7)]) (tgOk_v (by decide)) rfl nd rfl rfl (sw_true rfl rfl rfl rfl) (i_rng1 (by rfl) B.range_ (s_len (by rfl) B.len_ (s_v (i := 1) rfl (.inr (.inl rfl))))) (blkOk_by rfl) (fun _ _ _ _ _ => (g_name (vs := [7]) nd rfl (.inl rfl) (by decide))) (fun _ _ _ _ _ => (ts_one (t_isnt  (s_callH (Fs 50 (by decide)) takes0 hr0 (by rfl) T.g50 T.k50 T.b50 (by rfl) (by exact (al1 (al1 al0))) (s_ac (s_v (i := 4) rfl (.inr (.inl rfl))) (s_ac (s_tup (s_ac (s_ix hu1 (s_ix hu1 (s_v (i := 1) rfl (.inr (.inl rfl))) (s_v (i := 7) rfl (.inl rfl)) (fun _ _ => rfl)) s_int (fun _ _ => rfl)) (s_ac (s_ix hu1 (s_ix hu1 (s_v (i := 1) rfl (.inr (.inl rfl))) (s_v (i := 7) rfl (.inl rfl)) (fun _ _ => rfl)) s_int (fun _ _ => rfl)) s_an))) s_an))) s_non))) (fun _ _ _ _ _ => (s_v (i := 7) rfl (.inl rfl)))) (c_cons (c_if (w_or (t_eq hu (s_callH (Fs 47 (by decide)) tk hr0 (by rfl) T.g47 T.k47 T.b47 (by rfl) (by exact (al1 (al1 (al1 al0)))) (s_ac (s_v (i := 0) rfl (.inl rfl)) (s_ac s_int (s_ac s_int s_an)))) s_int) (w_or1 (t_not (t_tr (s_v (i := 6) rfl (.inl rfl)))))).pt (c_one (c_set (i := 6) nd rfl (.inl rfl) (s_lrng rfl (by rfl) B.list_ (by rfl) B.range_ (s_len (by rfl) B.len_ (s_v (i := 1) rfl (.inr (.inl rfl))))))) c_nil) (c_cons (c_set (i := 3) nd rfl (.inl rfl) (s_add (s_v (i := 3) rfl (.inl rfl)) (s_tup (s_ac (s_ix hu1 (s_v (i := 6) rfl (.inl rfl)) (s_callH (Fs 47 (by decide)) tk hr0 (by rfl) T.g47 T.k47 T.b47 (by rfl) (by exact (al1 (al1 (al1 al0)))) (s_ac (s_v (i := 0) rfl (.inl rfl)) (s_ac s_int (s_ac (s_len (by rfl) B.len_ (s_v (i := 6) rfl (.inl rfl))) s_an)))) (fun _ _ => rfl)) s_an)))) (c_cons (c_set (i := 4) nd rfl (.inr rfl) (s_callH (Fs 50 (by decide)) tk hr0 (by rfl) T.g50 T.k50 T.b50 (by rfl) (by exact (al1 (al1 al0))) (s_ac (s_v (i := 4) rfl (.inr (.inl rfl))) (s_ac (s_tup (s_ac (s_ix hu1 (s_ix hu1 (s_v (i := 1) rfl (.inr (.inl rfl))) (s_ix hu1 (s_v (i := 3) rfl (.inl rfl)) (s_neg s_int) (fun _ _ => rfl)) (fun _ _ => rfl)) s_int (fun _ _ => rfl)) (s_ac (s_ix hu1 (s_ix hu1 (s_v (i := 1) rfl (.inr (.inl rfl))) (s_ix hu1 (s_v (i := 3) rfl (.inl rfl)) (s_neg s_int) (fun _ _ => rfl)) (fun _ _ => rfl)) s_int (fun _ _ => rfl)) s_an))) s_an)))) (c_one (c_if (t_is  (s_v (i := 4) rfl (.inr (.inl rfl))) s_non) (c_one c_brk) c_nil))))))) (c_one (c_ret (s_v (i := 3) rfl (.inl rfl)))))))
theorem w57 (T : Tb K mg f fd) (B : Bt mg) (C : Ct K mg f) (Fs : ∀ j, j < 61 → FnOk Pg w K mg base (L2.CX Pg w) k (f j) (fd j) (psOf j) (spF (P1 K) K call j (psOf j).length)) (cdv : Value) (A : Around) (outer : List Env) (s : Shared) (H : Hp) (E : XK) (hr : Room (k + 1) (A.deeper (envOfC "_law_effects" (defScope (top 72)) s.heap.objs.size (f 57) cdv))) :
    PSs (cxOf (L2.CX Pg w) Pg w K mg base ["box", "deeds", "row", "kinds", "told", "more", "base", "rows", "lap"] "_law_effects" (defScope (top 72)) (f 57) cdv A outer s H E) (defBody (top 72)) (tS (P1 K) K (fun cls d _ H => E cls d H) (B57 call)) := by
  have hr0 := hr.mono (Nat.le_succ k)
  have hu := Room.h64 hr
  have hu1 := Room.h1 hr
  have nd := sc57.nd
  have hp : PassesOwn (model Pg w) _ (cxOf (L2.CX Pg w) Pg w K mg base ["box", "deeds", "row", "kinds", "told", "more", "base", "rows", "lap"] "_law_effects" (defScope (top 72)) (f 57) cdv A outer s H E).env (cxOf (L2.CX Pg w) Pg w K mg base ["box", "deeds", "row", "kinds", "told", "more", "base", "rows", "lap"] "_law_effects" (defScope (top 72)) (f 57) cdv A outer s H E).xe := passes_of rfl
  have tk : Takes (cxOf (L2.CX Pg w) Pg w K mg base ["box", "deeds", "row", "kinds", "told", "more", "base", "rows", "lap"] "_law_effects" (defScope (top 72)) (f 57) cdv A outer s H E) (fun cls d _ H => E cls d H) := takes_of rfl rfl rfl rfl
  exact (c_cons (c_set (i := 4) nd rfl (.inl rfl) (s_callH (Fs 51 (by decide)) tk hr0 (by rfl) T.g51 T.k51 T.b51 (by rfl) (by exact (al1 (al1 al0))) (s_ac (s_v (i := 1) rfl (.inl rfl)) (s_ac (s_v (i := 2) rfl (.inl rfl)) s_an)))) (c_cons (c_set (i := 5) nd rfl (.inl rfl) (s_tupC (by rfl) B.tuple_ (s_lc (own := [("lap", 8)]) (tgOk_v (by decide)) rfl nd (i_rng1 (by rfl) B.range_ (s_callH (Fs 47 (by decide)) tk hr0 (by rfl) T.g47 T.k47 T.b47 (by rfl) (by exact (al1 (al1 (al1 al0)))) (s_ac (s_v (i := 0) rfl (.inr (.inl rfl))) (s_ac s_int (s_ac s_int s_an))))) (blkOk_by rfl) (fun _ _ _ _ _ => (g_name (vs := [8]) nd rfl (.inl rfl) (by decide))) (fun _ _ _ _ _ => ts_nil) (fun _ _ _ _ _ => (s_callH (Fs 47 (by decide)) takes0 hr0 (by rfl) T.g47 T.k47 T.b47 (by rfl) (by exact (al1 (al1 (al1 al0)))) (s_ac (s_v (i := 0) rfl (.inr (.inl rfl))) (s_ac s_int (s_ac (s_v (i := 3) rfl (.inr (.inl rfl))) s_an)))))))) (c_cons (c_set (i := 6) nd rfl (.inl rfl) (s_ite (t_isnt  (s_v (i := 4) rfl (.inl rfl)) s_non) (s_v (i := 4) rfl (.inl rfl)) (s_tup (s_ac (s_tup (s_ac (s_callH (Fs 47 (by decide)) tk hr0 (by rfl) T.g47 T.k47 T.b47 (by rfl) (by exact (al1 (al1 (al1 al0)))) (s_ac (s_v (i := 0) rfl (.inr (.inl rfl))) (s_ac s_int (s_ac (s_v (i := 3) rfl (.inr (.inl rfl))) s_an)))) s_an)) (s_ac (s_tup (s_ac (s_callH (Fs 47 (by decide)) tk hr0 (by rfl) T.g47 T.k47 T.b47 (by rfl) (by exact (al1 (al1 (al1 al0)))) (s_ac (s_v (i := 0) rfl (.inr (.inl rfl))) (s_ac s_int (s_ac (s_v (i := 3) rfl (.inr (.inl rfl))) s_an)))) s_an)) s_an))))) (c_cons (c_set (i := 7) nd rfl (.inl rfl) (s_lst (s_ac (s_v (i := 6) rfl (.inl rfl)) (s_ac (s_tup (s_ac (s_add (s_ix hu1 (s_v (i := 6) rfl (.inl rfl)) s_int (fun _ _ => rfl)) (s_v (i := 5) rfl (.inl rfl))) (s_ac (s_add (s_ix hu1 (s_v (i := 6) rfl (.inl rfl)) s_int (fun _ _ => rfl)) (s_v (i := 5) rfl (.inl rfl))) s_an))) (s_ac (s_tup (s_ac (s_add (s_ix hu1 (s_v (i := 6) rfl (.inl rfl)) s_int (fun _ _ => rfl)) (s_tup (s_ac s_int s_an))) (s_ac (s_ix hu1 (s_v (i := 6) rfl (.inl rfl)) s_int (fun _ _ => rfl)) s_an))) (s_ac (s_tup (s_ac (s_ix hu1 (s_v (i := 6) rfl (.inl rfl)) s_int (fun _ _ => rfl)) (s_ac (s_add (s_ix hu1 (s_v (i := 6) rfl (.inl rfl)) s_int (fun _ _ => rfl)) (s_tup (s_ac (s_sub (s_v (i := 3) rfl (.inr (.inl rfl))) s_int) s_an))) s_an))) (s_ac (s_tup (s_ac (s_ix hu1 (s_v (i := 6) rfl (.inl rfl)) s_int (fun _ _ => rfl)) (s_ac (s_ix hu1 (s_v (i := 6) rfl (.inl rfl)) s_int (fun _ _ => rfl)) s_an))) (s_ac (s_tup (s_ac (s_sl (s_ix hu1 (s_v (i := 6) rfl (.inl rfl)) s_int (fun _ _ => rfl)) (o_some s_int) o_none) (s_ac (s_ix hu1 (s_v (i := 6) rfl (.inl rfl)) s_int (fun _ _ => rfl)) s_an))) (s_ac (s_tup (s_ac (s_add (s_ix hu1 (s_v (i := 6) rfl (.inl rfl)) s_int (fun _ _ => rfl)) (s_v (i := 5) rfl (.inl rfl))) (s_ac (s_add (s_v (i := 5) rfl (.inl rfl)) (s_ix hu1 (s_v (i := 6) rfl (.inl rfl)) s_int (fun _ _ => rfl))) s_an))) (s_ac (s_tup (s_ac (s_add (s_tup (s_ac s_int s_an)) (s_ix hu1 (s_v (i := 6) rfl (.inl rfl)) s_int (fun _ _ => rfl))) (s_ac (s_add (s_tup (s_ac s_int s_an)) (s_ix hu1 (s_v (i := 6) rfl (.inl rfl)) s_int (fun _ _ => rfl))) s_an))) s_an)))))))))) (c_one (c_ret (s_lst (s_ac (s_ix hu1 (s_v (i := 7) rfl (.inl rfl)) s_int (fun _ _ => rfl)) (s_ac (s_ix hu1 (s_v (i := 7) rfl (.inl rfl)) s_int (fun _ _ => rfl)) (s_ac (s_ix hu1 (s_v (i := 7) rfl (.inl rfl)) (s_add s_int (s_callH (Fs 47 (by decide)) tk hr0 (by rfl) T.g47 T.k47 T.b47 (by rfl) (by exact (al1 (al1 (al1 al0)))) (s_ac (s_v (i := 0) rfl (.inr (.inl rfl))) (s_ac s_int (s_ac s_int s_an))))) (fun _ _ => rfl)) s_an))))))))))
theorem w58 (T : Tb K mg f fd) (B : Bt mg) (C : Ct K mg f) (Fs : ∀ j, j < 61 → FnOk Pg w K mg base (L2.CX Pg w) k (f j) (fd j) (psOf j) (spF (P1 K) K call j (psOf j).length)) (cdv : Value) (A : Around) (outer : List Env) (s : Shared) (H : Hp) (E : XK) (hr : Room (k + 1) (A.deeper (envOfC "_law_asked" (defScope (top 73)) s.heap.objs.size (f 58) cdv))) :
    PSs (cxOf (L2.CX Pg w) Pg w K mg base ["box", "program", "kinds", "most", "long", "deeds", "row", "due", "effects", "effect", "other", "at", "d", "rows", "one", "first", "second", "more", "longer"] "_law_asked" (defScope (top 73)) (f 58) cdv A outer s H E) (defBody (top 73)) (tS (P1 K) K (fun cls d _ H => E cls d H) (B58 call)) := by
  have hr0 := hr.mono (Nat.le_succ k)
  have hu := Room.h64 hr
  have hu1 := Room.h1 hr
  have nd := sc58.nd
  have hp : PassesOwn (model Pg w) _ (cxOf (L2.CX Pg w) Pg w K mg base ["box", "program", "kinds", "most", "long", "deeds", "row", "due", "effects", "effect", "other", "at", "d", "rows", "one", "first", "second", "more", "longer"] "_law_asked" (defScope (top 73)) (f 58) cdv A outer s H E).env (cxOf (L2.CX Pg w) Pg w K mg base ["box", "program", "kinds", "most", "long", "deeds", "row", "due", "effects", "effect", "other", "at", "d", "rows", "one", "first", "second", "more", "longer"] "_law_asked" (defScope (top 73)) (f 58) cdv A outer s H E).xe := passes_of rfl
  have tk : Takes (cxOf (L2.CX Pg w) Pg w K mg base ["box", "program", "kinds", "most", "long", "deeds", "row", "due", "effects", "effect", "other", "at", "d", "rows", "one", "first", "second", "more", "longer"] "_law_asked" (defScope (top 73)) (f 58) cdv A outer s H E) (fun cls d _ H => E cls d H) := takes_of rfl rfl rfl rfl
  exact (c_cons (c_set (i := 5) nd rfl (.inr rfl) (s_ix hu1 (s_v (i := 1) rfl (.inl rfl)) s_int (fun _ _ => rfl))) (c_cons (c_set (i := 6) nd rfl (.inl rfl) (s_callH (Fs 56 (by decide)) tk hr0 (by rfl) T.g56 T.k56 T.b56 (by rfl) (by exact (al1 (al1 (al1 al0)))) (s_ac (s_v (i := 0) rfl (.inl rfl)) (s_ac (s_v (i := 5) rfl (.inr (.inl rfl))) (s_ac (s_v (i := 4) rfl (.inl rfl)) s_an))))) (c_cons (c_set (i := 7) nd rfl (.inl rfl) (s_callH (Fs 51 (by decide)) tk hr0 (by rfl) T.g51 T.k51 T.b51 (by rfl) (by exact (al1 (al1 al0))) (s_ac (s_v (i := 5) rfl (.inr (.inl rfl))) (s_ac (s_v (i := 6) rfl (.inl rfl)) s_an)))) (c_cons (c_if (w_or (t_not (t_tr (s_callH (Fs 54 (by decide)) tk hr0 (by rfl) T.g54 T.k54 T.b54 (by rfl) (by exact (al1 (al1 al0))) (s_ac (s_callH (Fs 6 (by decide)) tk hr0 (by rfl) T.g6 T.k6 T.b6 (by rfl) (by exact (al1 (al1 al0))) (s_ac (s_v (i := 1) rfl (.inl rfl)) (s_ac (s_v (i := 6) rfl (.inl rfl)) s_an))) (s_ac (s_v (i := 7) rfl (.inl rfl)) s_an))))) (w_or1 (t_not (t_tr (s_callH (Fs 54 (by decide)) tk hr0 (by rfl) T.g54 T.k54 T.b54 (by rfl) (by exact (al1 (al1 al0))) (s_ac (s_callH (Fs 2 (by decide)) tk hr0 (by rfl) T.g2 T.k2 T.b2 (by rfl) (by exact (al1 al0)) (s_ac (s_tupC (by rfl) B.tuple_ (s_lc (own := [("d", 12)]) (tgOk_v (by decide)) rfl nd (i_seq (s_v (i := 6) rfl (.inl rfl))) (blkOk_by rfl) (fun _ _ _ _ _ => (g_name (vs := [12]) nd rfl (.inl rfl) (by decide))) (fun _ _ _ _ _ => ts_nil) (fun _ _ _ _ _ => (s_sl (s_ix hu1 (s_v (i := 5) rfl (.inr (.inl rfl))) (s_v (i := 12) rfl (.inl rfl)) (fun _ _ => rfl)) (o_some s_int) o_none)))) s_an)) (s_ac (s_v (i := 7) rfl (.inl rfl)) s_an))))))).pt (c_one (c_ret s_bl)) c_nil) (c_cons (c_set (i := 8) nd rfl (.inl rfl) (s_callH (Fs 57 (by decide)) tk hr0 (by rfl) T.g57 T.k57 T.b57 (by rfl) (by exact (al1 (al1 (al1 (al1 al0))))) (s_ac (s_v (i := 0) rfl (.inl rfl)) (s_ac (s_v (i := 5) rfl (.inr (.inl rfl))) (s_ac (s_v (i := 6) rfl (.inl rfl)) (s_ac (s_v (i := 2) rfl (.inl rfl)) s_an)))))) (c_cons (c_for hp rfl (i_seq (s_v (i := 8) rfl (.inl rfl))) (g_name (vs := [9]) nd rfl (.inl rfl) (by decide)) (c_one (c_if (t_not (t_tr (s_callH (Fs 54 (by decide)) tk hr0 (by rfl) T.g54 T.k54 T.b54 (by rfl) (by exact (al1 (al1 al0))) (s_ac (s_callH (Fs 9 (by decide)) tk hr0 (by rfl) T.g9 T.k9 T.b9 (by rfl) (by exact (al1 (al1 (al1 al0)))) (s_ac (s_v (i := 1) rfl (.inl rfl)) (s_ac (s_v (i := 9) rfl (.inl rfl)) (s_ac (s_v (i := 3) rfl (.inl rfl)) s_an)))) (s_ac (s_callH (Fs 53 (by decide)) tk hr0 (by rfl) T.g53 T.k53 T.b53 (by rfl) (by exact (al1 (al1 (al1 al0)))) (s_ac (s_v (i := 5) rfl (.inr (.inl rfl))) (s_ac (s_v (i := 9) rfl (.inl rfl)) (s_ac (s_v (i := 3) rfl (.inl rfl)) s_an)))) s_an))))) (c_one (c_ret s_bl)) c_nil))) (c_cons (c_set (i := 10) nd rfl (.inl rfl) (s_callH (Fs 56 (by decide)) tk hr0 (by rfl) T.g56 T.k56 T.b56 (by rfl) (by exact (al1 (al1 (al1 al0)))) (s_ac (s_v (i := 0) rfl (.inl rfl)) (s_ac (s_v (i := 5) rfl (.inr (.inl rfl))) (s_ac (s_v (i := 4) rfl (.inl rfl)) s_an))))) (c_cons (c_set (i := 11) nd rfl (.inl rfl) (s_callH (Fs 47 (by decide)) tk hr0 (by rfl) T.g47 T.k47 T.b47 (by rfl) (by exact (al1 (al1 (al1 al0)))) (s_ac (s_v (i := 0) rfl (.inl rfl)) (s_ac s_int (s_ac (s_add (s_len (by rfl) B.len_ (s_v (i := 6) rfl (.inl rfl))) s_int) s_an))))) (c_cons (c_set (i := 12) nd rfl (.inl rfl) (s_callH (Fs 47 (by decide)) tk hr0 (by rfl) T.g47 T.k47 T.b47 (by rfl) (by exact (al1 (al1 (al1 al0)))) (s_ac (s_v (i := 0) rfl (.inl rfl)) (s_ac s_int (s_ac (s_len (by rfl) B.len_ (s_v (i := 5) rfl (.inr (.inl rfl)))) s_an))))) (c_cons (c_set (i := 13) nd rfl (.inl rfl) (s_lst (s_ac (s_v (i := 6) rfl (.inl rfl)) (s_ac (s_sl (s_v (i := 6) rfl (.inl rfl)) o_none (o_some (s_v (i := 11) rfl (.inl rfl)))) (s_ac (s_add (s_v (i := 6) rfl (.inl rfl)) (s_tup (s_ac (s_v (i := 12) rfl (.inl rfl)) s_an))) (s_ac (s_add (s_add (s_sl (s_v (i := 6) rfl (.inl rfl)) o_none (o_some (s_v (i := 11) rfl (.inl rfl)))) (s_tup (s_ac (s_v (i := 12) rfl (.inl rfl)) s_an))) (s_sl (s_v (i := 6) rfl (.inl rfl)) (o_some (s_v (i := 11) rfl (.inl rfl))) o_none)) (s_ac (s_add (s_add (s_sl (s_v (i := 6) rfl (.inl rfl)) o_none (o_some (s_v (i := 11) rfl (.inl rfl)))) (s_tup (s_ac (s_v (i := 12) rfl (.inl rfl)) s_an))) (s_sl (s_v (i := 6) rfl (.inl rfl)) (o_some (s_add (s_v (i := 11) rfl (.inl rfl)) s_int)) o_none)) (s_ac (s_v (i := 10) rfl (.inl rfl)) (s_ac (s_revT (s_v (i := 6) rfl (.inl rfl))) (s_ac (s_tup s_an) s_an)))))))))) (c_cons (c_for hp rfl (i_seq (s_v (i := 13) rfl (.inl rfl))) (g_name (vs := [14]) nd rfl (.inl rfl) (by decide)) (c_one (c_for hp rfl (i_seq (s_v (i := 8) rfl (.inl rfl))) (g_name (vs := [9]) nd rfl (.inl rfl) (by decide)) (c_one (c_if (t_not (t_tr (s_callH (Fs 55 (by decide)) tk hr0 (by rfl) T.g55 T.k55 T.b55 (by rfl) (by exact (al1 (al1 al0))) (s_ac (s_callH (Fs 7 (by decide)) tk hr0 (by rfl) T.g7 T.k7 T.b7 (by rfl) (by exact (al1 (al1 (al1 al0)))) (s_ac (s_v (i := 1) rfl (.inl rfl)) (s_ac (s_v (i := 14) rfl (.inl rfl)) (s_ac (s_v (i := 9) rfl (.inl rfl)) s_an)))) (s_ac (s_callH (Fs 52 (by decide)) tk hr0 (by rfl) T.g52 T.k52 T.b52 (by rfl) (by exact (al1 (al1 al0))) (s_ac (s_callH (Fs 51 (by decide)) tk hr0 (by rfl) T.g51 T.k51 T.b51 (by rfl) (by exact (al1 (al1 al0))) (s_ac (s_v (i := 5) rfl (.inr (.inl rfl))) (s_ac (s_v (i := 14) rfl (.inl rfl)) s_an))) (s_ac (s_v (i := 9) rfl (.inl rfl)) s_an))) s_an))))) (c_one (c_ret s_bl)) c_nil))))) (c_cons (c_par (i := 15) (j := 16) rfl nd rfl rfl (by decide) rfl rfl (s_ac (s_callH (Fs 51 (by decide)) tk hr0 (by rfl) T.g51 T.k51 T.b51 (by rfl) (by exact (al1 (al1 al0))) (s_ac (s_v (i := 5) rfl (.inr (.inl rfl))) (s_ac (s_sl (s_v (i := 6) rfl (.inl rfl)) o_none (o_some (s_v (i := 11) rfl (.inl rfl)))) s_an))) (s_ac (s_callH (Fs 51 (by decide)) tk hr0 (by rfl) T.g51 T.k51 T.b51 (by rfl) (by exact (al1 (al1 al0))) (s_ac (s_v (i := 5) rfl (.inr (.inl rfl))) (s_ac (s_sl (s_v (i := 6) rfl (.inl rfl)) (o_some (s_v (i := 11) rfl (.inl rfl))) o_none) s_an))) s_an)) rfl) (c_cons (c_if (w_and (t_isnt  (s_v (i := 15) rfl (.inl rfl)) s_non) (w_and (t_isnt  (s_v (i := 16) rfl (.inl rfl)) s_non) (w_and1 (t_not (t_tr (s_callH (Fs 54 (by decide)) tk hr0 (by rfl) T.g54 T.k54 T.b54 (by rfl) (by exact (al1 (al1 al0))) (s_ac (s_callH (Fs 1 (by decide)) tk hr0 (by rfl) T.g1 T.k1 T.b1 (by rfl) (by exact (al1 (al1 al0))) (s_ac (s_v (i := 15) rfl (.inl rfl)) (s_ac (s_v (i := 16) rfl (.inl rfl)) s_an))) (s_ac (s_v (i := 7) rfl (.inl rfl)) s_an)))))))).pt (c_one (c_ret s_bl)) c_nil) (c_cons (c_if (t_is  (s_v (i := 7) rfl (.inl rfl)) s_non) (c_one (c_ret s_bl)) c_nil) (c_cons (c_set (i := 17) nd rfl (.inl rfl) (s_tup (s_ac (s_sub (s_v (i := 2) rfl (.inl rfl)) s_int) (s_ac s_int s_an)))) (c_cons (c_set (i := 18) nd rfl (.inl rfl) (s_tup (s_ac (s_add (s_ix hu1 (s_v (i := 7) rfl (.inl rfl)) s_int (fun _ _ => rfl)) (s_v (i := 17) rfl (.inl rfl))) (s_ac (s_add (s_ix hu1 (s_v (i := 7) rfl (.inl rfl)) s_int (fun _ _ => rfl)) (s_v (i := 17) rfl (.inl rfl))) s_an)))) (c_one (c_ret (s_and (s_callH (Fs 54 (by decide)) tk hr0 (by rfl) T.g54 T.k54 T.b54 (by rfl) (by exact (al1 (al1 al0))) (s_ac (s_callH (Fs 3 (by decide)) tk hr0 (by rfl) T.g3 T.k3 T.b3 (by rfl) (by exact (al1 (al1 al0))) (s_ac (s_v (i := 7) rfl (.inl rfl)) (s_ac (s_v (i := 17) rfl (.inl rfl)) s_an))) (s_ac (s_v (i := 18) rfl (.inl rfl)) s_an))) (s_one (s_callH (Fs 55 (by decide)) tk hr0 (by rfl) T.g55 T.k55 T.b55 (by rfl) (by exact (al1 (al1 al0))) (s_ac (s_callH (Fs 5 (by decide)) tk hr0 (by rfl) T.g5 T.k5 T.b5 (by rfl) (by exact (al1 (al1 al0))) (s_ac (s_v (i := 7) rfl (.inl rfl)) (s_ac (s_v (i := 18) rfl (.inl rfl)) s_an))) (s_ac s_bl s_an)))))))))))))))))))))))
theorem w59 (T : Tb K mg f fd) (B : Bt mg) (C : Ct K mg f) (Fs : ∀ j, j < 61 → FnOk Pg w K mg base (L2.CX Pg w) k (f j) (fd j) (psOf j) (spF (P1 K) K call j (psOf j).length)) (cdv : Value) (A : Around) (outer : List Env) (s : Shared) (H : Hp) (E : XK) (hr : Room (k + 1) (A.deeper (envOfC "_law_by_hand" (defScope (top 74)) s.heap.objs.size (f 59) cdv))) :
    PSs (cxOf (L2.CX Pg w) Pg w K mg base ["calc", "program", "told", "looks", "row", "effect", "due", "twins"] "_law_by_hand" (defScope (top 74)) (f 59) cdv A outer s H E) (defBody (top 74)) (tS (P1 K) K (fun cls d _ H => E cls d H) (B59 call)) := by
  have hr0 := hr.mono (Nat.le_succ k)
  have hu := Room.h64 hr
  have hu1 := Room.h1 hr
  have nd := sc59.nd
  have hp : PassesOwn (model Pg w) _ (cxOf (L2.CX Pg w) Pg w K mg base ["calc", "program", "told", "looks", "row", "effect", "due", "twins"] "_law_by_hand" (defScope (top 74)) (f 59) cdv A outer s H E).env (cxOf (L2.CX Pg w) Pg w K mg base ["calc", "program", "told", "looks", "row", "effect", "due", "twins"] "_law_by_hand" (defScope (top 74)) (f 59) cdv A outer s H E).xe := passes_of rfl
  have tk : Takes (cxOf (L2.CX Pg w) Pg w K mg base ["calc", "program", "told", "looks", "row", "effect", "due", "twins"] "_law_by_hand" (defScope (top 74)) (f 59) cdv A outer s H E) (fun cls d _ H => E cls d H) := takes_of rfl rfl rfl rfl
  exact (c_cons (c_set (i := 0) nd rfl (.inl rfl) (s_str (by decide +kernel) (by decide))) (c_cons (c_set (i := 0) nd rfl (.inl rfl) (s_add (s_v (i := 0) rfl (.inl rfl)) (s_str (by decide +kernel) (by decide)))) (c_cons (c_set (i := 1) nd rfl (.inl rfl) (s_callH (Fs 45 (by decide)) tk hr0 (by rfl) T.g45 T.k45 T.b45 (by rfl) (by exact (al1 al0)) (s_ac (s_v (i := 0) rfl (.inl rfl)) s_an))) (c_cons (c_set (i := 2) nd rfl (.inl rfl) (s_tup (s_ac (s_callH (Fs 6 (by decide)) tk hr0 (by rfl) T.g6 T.k6 T.b6 (by rfl) (by exact (al1 (al1 al0))) (s_ac (s_v (i := 1) rfl (.inl rfl)) (s_ac (s_tup (s_ac s_int (s_ac s_int s_an))) s_an))) (s_ac (s_callH (Fs 9 (by decide)) tk hr0 (by rfl) T.g9 T.k9 T.b9 (by rfl) (by exact (al1 (al1 (al1 al0)))) (s_ac (s_v (i := 1) rfl (.inl rfl)) (s_ac (s_tup (s_ac (s_tup (s_ac s_int s_an)) (s_ac (s_tup (s_ac s_int (s_ac s_int s_an))) s_an))) (s_ac s_int s_an)))) (s_ac (s_callH (Fs 6 (by decide)) tk hr0 (by rfl) T.g6 T.k6 T.b6 (by rfl) (by exact (al1 (al1 al0))) (s_ac (s_v (i := 1) rfl (.inl rfl)) (s_ac (s_tup s_an) s_an))) (s_ac (s_callH (Fs 6 (by decide)) tk hr0 (by rfl) T.g6 T.k6 T.b6 (by rfl) (by exact (al1 (al1 al0))) (s_ac (s_v (i := 1) rfl (.inl rfl)) (s_ac (s_tup (s_ac s_int (s_ac s_int s_an))) s_an))) (s_ac (s_callH (Fs 9 (by decide)) tk hr0 (by rfl) T.g9 T.k9 T.b9 (by rfl) (by exact (al1 (al1 (al1 al0)))) (s_ac (s_v (i := 1) rfl (.inl rfl)) (s_ac (s_tup (s_ac (s_tup s_an) (s_ac (s_tup s_an) s_an))) (s_ac s_int s_an)))) (s_ac (s_callHK (ks := ["effect", "program", "most"]) (perm := [1, 0, 2]) (Fs 9 (by decide)) tk hr0 (by rfl) T.g9 T.k9 (kb9_102 T) (by rfl) (by rfl) (k_ac (s_tup (s_ac (s_tup (s_ac s_int (s_ac s_int s_an))) (s_ac (s_tup (s_ac s_int (s_ac s_int s_an))) s_an))) (k_ac (s_v (i := 1) rfl (.inl rfl)) (k_ac s_int k_an)))) s_an)))))))) (c_cons (c_if (t_not (t_tr (s_callH (Fs 54 (by decide)) tk hr0 (by rfl) T.g54 T.k54 T.b54 (by rfl) (by exact (al1 (al1 al0))) (s_ac (s_v (i := 2) rfl (.inl rfl)) (s_ac (s_tup (s_ac (s_tup (s_ac (s_tup (s_ac s_int s_an)) (s_ac (s_tup (s_ac s_int s_an)) s_an))) (s_ac (s_tup (s_ac s_int (s_ac s_int s_an))) (s_ac (s_tup (s_ac (s_tup s_an) (s_ac (s_tup s_an) s_an))) (s_ac s_non (s_ac (s_tup s_an) (s_ac (s_tup s_an) s_an))))))) s_an))))) (c_one (c_ret s_bl)) c_nil) (c_cons (c_set (i := 2) nd rfl (.inl rfl) (s_tup (s_ac (s_callH (Fs 9 (by decide)) tk hr0 (by rfl) T.g9 T.k9 T.b9 (by rfl) (by exact (al1 (al1 (al1 al0)))) (s_ac (s_v (i := 1) rfl (.inl rfl)) (s_ac (s_tup (s_ac (s_tup (s_ac s_int s_an)) (s_ac (s_tup (s_ac s_int (s_ac s_int s_an))) s_an))) (s_ac s_int s_an)))) (s_ac (s_callH (Fs 9 (by decide)) tk hr0 (by rfl) T.g9 T.k9 T.b9 (by rfl) (by exact (al1 (al1 (al1 al0)))) (s_ac (s_v (i := 1) rfl (.inl rfl)) (s_ac (s_tup (s_ac (s_tup s_an) (s_ac (s_tup (s_ac s_int s_an)) s_an))) (s_ac s_int s_an)))) (s_ac (s_callH (Fs 9 (by decide)) tk hr0 (by rfl) T.g9 T.k9 T.b9 (by rfl) (by exact (al1 (al1 (al1 al0)))) (s_ac (s_v (i := 1) rfl (.inl rfl)) (s_ac (s_tup (s_ac (s_tup s_an) (s_ac (s_tup (s_ac s_int (s_ac s_int (s_ac s_int s_an)))) s_an))) (s_ac s_int s_an)))) (s_ac (s_callHK (ks := ["most", "effect", "program"]) (perm := [2, 1, 0]) (Fs 9 (by decide)) tk hr0 (by rfl) T.g9 T.k9 (kb9_210 T) (by rfl) (by rfl) (k_ac s_int (k_ac (s_tup (s_ac (s_tup (s_ac s_int (s_ac s_int (s_ac s_int s_an)))) (s_ac (s_tup (s_ac s_int s_an)) s_an))) (k_ac (s_v (i := 1) rfl (.inl rfl)) k_an)))) (s_ac (s_callH (Fs 9 (by decide)) tk hr0 (by rfl) T.g9 T.k9 T.b9 (by rfl) (by exact (al1 (al1 (al1 al0)))) (s_ac (s_v (i := 1) rfl (.inl rfl)) (s_ac (s_tup (s_ac (s_tup (s_ac s_int s_an)) (s_ac (s_tup (s_ac s_int s_an)) s_an))) (s_ac s_int s_an)))) (s_ac (s_callHK (ks := ["row", "program"]) (perm := [1, 0]) (Fs 6 (by decide)) tk hr0 (by rfl) T.g6 T.k6 (kb6_10 T) (by rfl) (by rfl) (k_ac (s_tup (s_ac s_int (s_ac s_int (s_ac s_int s_an)))) (k_ac (s_v (i := 1) rfl (.inl rfl)) k_an))) s_an)))))))) (c_cons (c_if (t_not (t_tr (s_callH (Fs 54 (by decide)) tk hr0 (by rfl) T.g54 T.k54 T.b54 (by rfl) (by exact (al1 (al1 al0))) (s_ac (s_v (i := 2) rfl (.inl rfl)) (s_ac (s_tup (s_ac s_non (s_ac (s_tup (s_ac s_int (s_ac s_int s_an))) (s_ac s_non (s_ac (s_tup (s_ac s_int (s_ac s_int (s_ac s_int s_an)))) (s_ac s_non (s_ac (s_tup (s_ac (s_tup (s_ac s_int (s_ac s_int (s_ac s_int s_an)))) (s_ac (s_tup (s_ac s_int s_an)) s_an))) s_an))))))) s_an))))) (c_one (c_ret s_bl)) c_nil) (c_cons (c_set (i := 3) nd rfl (.inl rfl) (s_tup (s_ac (s_tup (s_ac (s_tup (s_ac s_int (s_ac s_int s_an))) (s_ac (s_tup (s_ac (s_tup (s_ac s_int (s_ac s_int s_an))) (s_ac (s_tup (s_ac s_int (s_ac s_int s_an))) s_an))) (s_ac s_bl s_an)))) (s_ac (s_tup (s_ac (s_tup (s_ac s_int (s_ac s_int s_an))) (s_ac (s_tup (s_ac (s_tup (s_ac s_int s_an)) (s_ac (s_tup (s_ac s_int s_an)) s_an))) (s_ac s_bl s_an)))) (s_ac (s_tup (s_ac (s_tup (s_ac s_int (s_ac s_int s_an))) (s_ac (s_tup (s_ac (s_tup s_an) (s_ac (s_tup s_an) s_an))) (s_ac s_bl s_an)))) (s_ac (s_tup (s_ac (s_tup s_an) (s_ac (s_tup (s_ac (s_tup (s_ac s_int s_an)) (s_ac (s_tup (s_ac s_int s_an)) s_an))) (s_ac s_bl s_an)))) (s_ac (s_tup (s_ac (s_tup s_an) (s_ac (s_tup (s_ac (s_tup (s_ac s_int s_an)) (s_ac (s_tup (s_ac s_int s_an)) s_an))) (s_ac s_bl s_an)))) (s_ac (s_tup (s_ac (s_tup (s_ac s_int (s_ac s_int s_an))) (s_ac (s_tup (s_ac (s_tup (s_ac s_int (s_ac s_int s_an))) (s_ac (s_tup (s_ac s_int s_an)) s_an))) (s_ac s_bl s_an)))) (s_ac (s_tup (s_ac (s_tup (s_ac s_int (s_ac s_int s_an))) (s_ac (s_tup (s_ac (s_tup (s_ac s_int s_an)) (s_ac (s_tup (s_ac s_int (s_ac s_int s_an))) s_an))) (s_ac s_bl s_an)))) (s_ac (s_tup (s_ac (s_tup (s_ac s_int (s_ac s_int s_an))) (s_ac (s_tup (s_ac (s_tup (s_ac s_int s_an)) (s_ac (s_tup (s_ac s_int s_an)) s_an))) (s_ac s_bl s_an)))) s_an)))))))))) (c_cons (c_for hp rfl (i_seq (s_v (i := 3) rfl (.inl rfl))) (g_tup rfl (gs_cons (g_name (vs := [4, 5, 6]) nd rfl (.inl rfl) (by decide)) (gs_cons (g_name (vs := [4, 5, 6]) nd rfl (.inl rfl) (by decide)) (gs_cons (g_name (vs := [4, 5, 6]) nd rfl (.inl rfl) (by decide)) gs_nil)))) (c_one (c_if (w_or (t_not (t_tr (s_callH (Fs 55 (by decide)) tk hr0 (by rfl) T.g55 T.k55 T.b55 (by rfl) (by exact (al1 (al1 al0))) (s_ac (s_callH (Fs 7 (by decide)) tk hr0 (by rfl) T.g7 T.k7 T.b7 (by rfl) (by exact (al1 (al1 (al1 al0)))) (s_ac (s_v (i := 1) rfl (.inl rfl)) (s_ac (s_v (i := 4) rfl (.inl rfl)) (s_ac (s_v (i := 5) rfl (.inl rfl)) s_an)))) (s_ac (s_v (i := 6) rfl (.inl rfl)) s_an))))) (w_or1 (t_not (t_tr (s_callH (Fs 55 (by decide)) tk hr0 (by rfl) T.g55 T.k55 T.b55 (by rfl) (by exact (al1 (al1 al0))) (s_ac (s_callHK (ks := ["effect", "program", "row"]) (perm := [1, 2, 0]) (Fs 7 (by decide)) tk hr0 (by rfl) T.g7 T.k7 (kb7_120 T) (by rfl) (by rfl) (k_ac (s_v (i := 5) rfl (.inl rfl)) (k_ac (s_v (i := 1) rfl (.inl rfl)) (k_ac (s_v (i := 4) rfl (.inl rfl)) k_an)))) (s_ac (s_v (i := 6) rfl (.inl rfl)) s_an))))))).pt (c_one (c_ret s_bl)) c_nil))) (c_cons (c_set (i := 7) nd rfl (.inl rfl) (s_tup (s_ac (s_tup (s_ac (s_str (by decide +kernel) (by decide)) s_an)) (s_ac (s_tup (s_ac (s_tup (s_ac (s_str (by decide +kernel) (by decide)) (s_ac (s_tup (s_ac s_int s_an)) (s_ac (s_tup (s_ac s_int s_an)) s_an)))) (s_ac (s_tup (s_ac (s_str (by decide +kernel) (by decide)) (s_ac (s_tup s_an) (s_ac (s_tup (s_ac s_int s_an)) s_an)))) (s_ac (s_tup (s_ac (s_str (by decide +kernel) (by decide)) (s_ac (s_tup s_an) (s_ac (s_tup (s_ac s_int s_an)) s_an)))) (s_ac (s_tup (s_ac (s_str (by decide +kernel) (by decide)) (s_ac (s_tup (s_ac s_int s_an)) (s_ac (s_tup s_an) s_an)))) s_an))))) (s_ac (s_tup (s_ac (s_str (by decide +kernel) (by decide)) s_an)) (s_ac (s_tup (s_ac (s_tup s_an) s_an)) s_an)))))) (c_cons (c_set (i := 2) nd rfl (.inl rfl) (s_tup (s_ac (s_callH (Fs 9 (by decide)) tk hr0 (by rfl) T.g9 T.k9 T.b9 (by rfl) (by exact (al1 (al1 (al1 al0)))) (s_ac (s_v (i := 7) rfl (.inl rfl)) (s_ac (s_tup (s_ac (s_tup s_an) (s_ac (s_tup (s_ac s_int s_an)) s_an))) (s_ac s_int s_an)))) (s_ac (s_callH (Fs 9 (by decide)) tk hr0 (by rfl) T.g9 T.k9 T.b9 (by rfl) (by exact (al1 (al1 (al1 al0)))) (s_ac (s_v (i := 7) rfl (.inl rfl)) (s_ac (s_tup (s_ac (s_tup (s_ac s_int s_an)) (s_ac (s_tup (s_ac s_int s_an)) s_an))) (s_ac s_int s_an)))) (s_ac (s_callH (Fs 9 (by decide)) tk hr0 (by rfl) T.g9 T.k9 T.b9 (by rfl) (by exact (al1 (al1 (al1 al0)))) (s_ac (s_v (i := 7) rfl (.inl rfl)) (s_ac (s_tup (s_ac (s_tup (s_ac s_int (s_ac s_int s_an))) (s_ac (s_tup s_an) s_an))) (s_ac s_int s_an)))) (s_ac (s_callH (Fs 6 (by decide)) tk hr0 (by rfl) T.g6 T.k6 T.b6 (by rfl) (by exact (al1 (al1 al0))) (s_ac (s_v (i := 7) rfl (.inl rfl)) (s_ac (s_tup (s_ac s_int s_an)) s_an))) (s_ac (s_callH (Fs 6 (by decide)) tk hr0 (by rfl) T.g6 T.k6 T.b6 (by rfl) (by exact (al1 (al1 al0))) (s_ac (s_v (i := 7) rfl (.inl rfl)) (s_ac (s_tup (s_ac s_int (s_ac s_int s_an))) s_an))) s_an))))))) (c_one (c_ret (s_callH (Fs 54 (by decide)) tk hr0 (by rfl) T.g54 T.k54 T.b54 (by rfl) (by exact (al1 (al1 al0))) (s_ac (s_v (i := 2) rfl (.inl rfl)) (s_ac (s_tup (s_ac (s_tup (s_ac s_int s_an)) (s_ac (s_tup s_an) (s_ac (s_tup (s_ac s_int (s_ac s_int s_an))) (s_ac (s_tup (s_ac (s_tup (s_ac s_int s_an)) (s_ac (s_tup (s_ac s_int s_an)) s_an))) (s_ac (s_tup (s_ac (s_tup (s_ac s_int s_an)) (s_ac (s_tup (s_ac s_int s_an)) s_an))) s_an)))))) s_an))))))))))))))))
theorem w60 (T : Tb K mg f fd) (B : Bt mg) (C : Ct K mg f) (Fs : ∀ j, j < 61 → FnOk Pg w K mg base (L2.CX Pg w) k (f j) (fd j) (psOf j) (spF (P1 K) K call j (psOf j).length)) (cdv : Value) (A : Around) (outer : List Env) (s : Shared) (H : Hp) (E : XK) (hr : Room (k + 1) (A.deeper (envOfC "law" (defScope (top 75)) s.heap.objs.size (f 60) cdv))) :
    PSs (cxOf (L2.CX Pg w) Pg w K mg base ["script", "box", "wide", "lap", "kinds", "deeds"] "law" (defScope (top 75)) (f 60) cdv A outer s H E) (defBody (top 75)) (tS (P1 K) K (fun cls d _ H => E cls d H) (B60 call)) := by
  have hr0 := hr.mono (Nat.le_succ k)
  have hu := Room.h64 hr
  have hu1 := Room.h1 hr
  have nd := sc60.nd
  have hp : PassesOwn (model Pg w) _ (cxOf (L2.CX Pg w) Pg w K mg base ["script", "box", "wide", "lap", "kinds", "deeds"] "law" (defScope (top 75)) (f 60) cdv A outer s H E).env (cxOf (L2.CX Pg w) Pg w K mg base ["script", "box", "wide", "lap", "kinds", "deeds"] "law" (defScope (top 75)) (f 60) cdv A outer s H E).xe := passes_of rfl
  have tk : Takes (cxOf (L2.CX Pg w) Pg w K mg base ["script", "box", "wide", "lap", "kinds", "deeds"] "law" (defScope (top 75)) (f 60) cdv A outer s H E) (fun cls d _ H => E cls d H) := takes_of rfl rfl rfl rfl
  exact (c_cons (c_set (i := 1) nd rfl (.inl rfl) (s_call (Fs 46 (by decide)) tk hr0 (by rfl) T.g46 T.k46 T.b46 (by rfl) (by exact (al1 al0)) (s_ac (s_v (i := 0) rfl (.inl rfl)) s_an))) (c_cons (c_set (i := 2) nd rfl (.inl rfl) (s_eq hu (s_callH (Fs 47 (by decide)) tk hr0 (by rfl) T.g47 T.k47 T.b47 (by rfl) (by exact (al1 (al1 (al1 al0)))) (s_ac (s_v (i := 1) rfl (.inl rfl)) (s_ac s_int (s_ac s_int s_an)))) s_int)) (c_cons (c_if (t_not (t_tr (s_callH0 (Fs 59 (by decide)) tk hr0 (by rfl) T.g59 T.k59 T.b59 (by rfl)))) (c_one (c_ret s_bl)) c_nil) (c_cons (c_for hp rfl (i_rng1 (by rfl) B.range_ s_int) (g_name (vs := [3]) nd rfl (.inl rfl) (by decide)) (c_cons (c_set (i := 4) nd rfl (.inl rfl) (s_add s_int (s_callH (Fs 47 (by decide)) tk hr0 (by rfl) T.g47 T.k47 T.b47 (by rfl) (by exact (al1 (al1 (al1 al0)))) (s_ac (s_v (i := 1) rfl (.inl rfl)) (s_ac s_int (s_ac s_int s_an)))))) (c_cons (c_set (i := 5) nd rfl (.inl rfl) (s_callH (Fs 48 (by decide)) tk hr0 (by rfl) T.g48 T.k48 T.b48 (by rfl) (by exact (al1 (al1 (al1 al0)))) (s_ac (s_v (i := 1) rfl (.inl rfl)) (s_ac (s_add s_int (s_callH (Fs 47 (by decide)) tk hr0 (by rfl) T.g47 T.k47 T.b47 (by rfl) (by exact (al1 (al1 (al1 al0)))) (s_ac (s_v (i := 1) rfl (.inl rfl)) (s_ac s_int (s_ac s_int s_an))))) (s_ac (s_v (i := 4) rfl (.inl rfl)) s_an))))) (c_one (c_if (t_not (t_tr (s_callH (Fs 58 (by decide)) tk hr0 (by rfl) T.g58 T.k58 T.b58 (by rfl) (by exact (al1 (al1 (al1 (al1 (al1 al0)))))) (s_ac (s_v (i := 1) rfl (.inl rfl)) (s_ac (s_callH (Fs 49 (by decide)) tk hr0 (by rfl) T.g49 T.k49 T.b49 (by rfl) (by exact (al1 (al1 (al1 al0)))) (s_ac (s_v (i := 1) rfl (.inl rfl)) (s_ac (s_v (i := 5) rfl (.inl rfl)) (s_ac (s_v (i := 4) rfl (.inl rfl)) s_an)))) (s_ac (s_v (i := 4) rfl (.inl rfl)) (s_ac (s_ix hu1 (s_tup (s_ac s_int (s_ac s_int (s_ac s_int (s_ac (s_callH (Fs 47 (by decide)) tk hr0 (by rfl) T.g47 T.k47 T.b47 (by rfl) (by exact (al1 (al1 (al1 al0)))) (s_ac (s_v (i := 1) rfl (.inl rfl)) (s_ac s_int (s_ac s_int s_an)))) s_an))))) (s_v (i := 3) rfl (.inl rfl)) (fun _ _ => rfl)) (s_ac s_int s_an)))))))) (c_one (c_ret s_bl)) c_nil))))) (c_cons (c_if (t_not (t_tr (s_v (i := 2) rfl (.inl rfl)))) (c_one (c_ret s_bl)) c_nil) (c_cons (c_set (i := 4) nd rfl (.inl rfl) (s_add s_int (s_callH (Fs 47 (by decide)) tk hr0 (by rfl) T.g47 T.k47 T.b47 (by rfl) (by exact (al1 (al1 (al1 al0)))) (s_ac (s_v (i := 1) rfl (.inl rfl)) (s_ac s_int (s_ac s_int s_an)))))) (c_cons (c_if (t_not (t_tr (s_callH (Fs 58 (by decide)) tk hr0 (by rfl) T.g58 T.k58 T.b58 (by rfl) (by exact (al1 (al1 (al1 (al1 (al1 al0)))))) (s_ac (s_v (i := 1) rfl (.inl rfl)) (s_ac (s_callH (Fs 49 (by decide)) tk hr0 (by rfl) T.g49 T.k49 T.b49 (by rfl) (by exact (al1 (al1 (al1 al0)))) (s_ac (s_v (i := 1) rfl (.inl rfl)) (s_ac (s_callH (Fs 48 (by decide)) tk hr0 (by rfl) T.g48 T.k48 T.b48 (by rfl) (by exact (al1 (al1 (al1 al0)))) (s_ac (s_v (i := 1) rfl (.inl rfl)) (s_ac s_int (s_ac (s_v (i := 4) rfl (.inl rfl)) s_an)))) (s_ac (s_v (i := 4) rfl (.inl rfl)) s_an)))) (s_ac (s_v (i := 4) rfl (.inl rfl)) (s_ac s_int (s_ac s_int s_an)))))))) (c_one (c_ret s_bl)) c_nil) (c_one (c_ret (s_callH (Fs 58 (by decide)) tk hr0 (by rfl) T.g58 T.k58 T.b58 (by rfl) (by exact (al1 (al1 (al1 (al1 (al1 al0)))))) (s_ac (s_v (i := 1) rfl (.inl rfl)) (s_ac (s_callH (Fs 49 (by decide)) tk hr0 (by rfl) T.g49 T.k49 T.b49 (by rfl) (by exact (al1 (al1 (al1 al0)))) (s_ac (s_v (i := 1) rfl (.inl rfl)) (s_ac (s_callH (Fs 48 (by decide)) tk hr0 (by rfl) T.g48 T.k48 T.b48 (by rfl) (by exact (al1 (al1 (al1 al0)))) (s_ac (s_v (i := 1) rfl (.inl rfl)) (s_ac s_int (s_ac (s_v (i := 4) rfl (.inl rfl)) s_an)))) (s_ac (s_v (i := 4) rfl (.inl rfl)) s_an)))) (s_ac (s_v (i := 4) rfl (.inl rfl)) (s_ac s_int (s_ac s_int s_an)))))))))))))))
end
def d0 : He.DefD := ⟨("begins", none), "begins", "begins", defArgs (top 2), defBody (top 2), defScope (top 2), [], []⟩
def d1 : He.DefD := ⟨("joined", none), "joined", "joined", defArgs (top 3), defBody (top 3), defScope (top 3), [], []⟩
def d2 : He.DefD := ⟨("all_joined", none), "all_joined", "all_joined", defArgs (top 4), defBody (top 4), defScope (top 4), [], []⟩
def d3 : He.DefD := ⟨("extended", none), "extended", "extended", defArgs (top 5), defBody (top 5), defScope (top 5), [], []⟩
def d4 : He.DefD := ⟨("is_extended", none), "is_extended", "is_extended", defArgs (top 11), defBody (top 11), defScope (top 11), [], []⟩
def d5 : He.DefD := ⟨("are_alike", none), "are_alike", "are_alike", defArgs (top 12), defBody (top 12), defScope (top 12), [], []⟩
def d6 : He.DefD := ⟨("row_effect", none), "row_effect", "row_effect", defArgs (top 14), defBody (top 14), defScope (top 14), [], []⟩
def d7 : He.DefD := ⟨("is_row_for", none), "is_row_for", "is_row_for", defArgs (top 15), defBody (top 15), defScope (top 15), [], []⟩
def d8 : He.DefD := ⟨("longer_rows", none), "longer_rows", "longer_rows", defArgs (top 16), defBody (top 16), defScope (top 16), [], []⟩
def d9 : He.DefD := ⟨("shortest_row", none), "shortest_row", "shortest_row", defArgs (top 17), defBody (top 17), defScope (top 17), [], []⟩
def d10 : He.DefD := ⟨("text_lines", none), "text_lines", "text_lines", defArgs (top 31), defBody (top 31), defScope (top 31), [], []⟩
def d11 : He.DefD := ⟨("behind_lines", none), "behind_lines", "behind_lines", defArgs (top 32), defBody (top 32), defScope (top 32), [], []⟩
def d12 : He.DefD := ⟨("end_of", none), "end_of", "end_of", defArgs (top 35), defBody (top 35), defScope (top 35), [], []⟩
def d13 : He.DefD := ⟨("token_at", none), "token_at", "token_at", defArgs (top 36), defBody (top 36), defScope (top 36), [], []⟩
def d14 : He.DefD := ⟨("line_tokens", none), "line_tokens", "line_tokens", defArgs (top 37), defBody (top 37), defScope (top 37), [], []⟩
def d15 : He.DefD := ⟨("tokens_of", none), "tokens_of", "tokens_of", defArgs (top 38), defBody (top 38), defScope (top 38), [], []⟩
def d16 : He.DefD := ⟨("Reader", some "__init__"), "__init__", "Reader.__init__", defArgs (topC 40 0), defBody (topC 40 0), defScope (topC 40 0), [], []⟩
def d17 : He.DefD := ⟨("Reader", some "refuse"), "refuse", "Reader.refuse", defArgs (topC 40 1), defBody (topC 40 1), defScope (topC 40 1), [], []⟩
def d18 : He.DefD := ⟨("Reader", some "here"), "here", "Reader.here", defArgs (topC 40 2), defBody (topC 40 2), defScope (topC 40 2), [], []⟩
def d19 : He.DefD := ⟨("Reader", some "is_token"), "is_token", "Reader.is_token", defArgs (topC 40 3), defBody (topC 40 3), defScope (topC 40 3), [], []⟩
def d20 : He.DefD := ⟨("Reader", some "is_name"), "is_name", "Reader.is_name", defArgs (topC 40 4), defBody (topC 40 4), defScope (topC 40 4), [], []⟩
def d21 : He.DefD := ⟨("Reader", some "take"), "take", "Reader.take", defArgs (topC 40 5), defBody (topC 40 5), defScope (topC 40 5), [], []⟩
def d22 : He.DefD := ⟨("Reader", some "name"), "name", "Reader.name", defArgs (topC 40 6), defBody (topC 40 6), defScope (topC 40 6), [], []⟩
def d23 : He.DefD := ⟨("Reader", some "names"), "names", "Reader.names", defArgs (topC 40 7), defBody (topC 40 7), defScope (topC 40 7), [], []⟩
def d24 : He.DefD := ⟨("Reader", some "number"), "number", "Reader.number", defArgs (topC 40 8), defBody (topC 40 8), defScope (topC 40 8), [], []⟩
def d25 : He.DefD := ⟨("Reader", some "word"), "word", "Reader.word", defArgs (topC 40 9), defBody (topC 40 9), defScope (topC 40 9), [], []⟩
def d26 : He.DefD := ⟨("Reader", some "sign"), "sign", "Reader.sign", defArgs (topC 40 10), defBody (topC 40 10), defScope (topC 40 10), [], []⟩
def d27 : He.DefD := ⟨("read_kinds", none), "read_kinds", "read_kinds", defArgs (top 41), defBody (top 41), defScope (top 41), [], []⟩
def d28 : He.DefD := ⟨("read_deed", none), "read_deed", "read_deed", defArgs (top 42), defBody (top 42), defScope (top 42), [], []⟩
def d29 : He.DefD := ⟨("read_either", none), "read_either", "read_either", defArgs (top 43), defBody (top 43), defScope (top 43), [], []⟩
def d30 : He.DefD := ⟨("read_statement", none), "read_statement", "read_statement", defArgs (top 44), defBody (top 44), defScope (top 44), [], []⟩
def d31 : He.DefD := ⟨("read_block", none), "read_block", "read_block", defArgs (top 45), defBody (top 45), defScope (top 45), [], []⟩
def d32 : He.DefD := ⟨("read_words", none), "read_words", "read_words", defArgs (top 46), defBody (top 46), defScope (top 46), [], []⟩
def d33 : He.DefD := ⟨("tree_of", none), "tree_of", "tree_of", defArgs (top 47), defBody (top 47), defScope (top 47), [], []⟩
def d34 : He.DefD := ⟨("refuse", none), "refuse", "refuse", defArgs (top 49), defBody (top 49), defScope (top 49), [], []⟩
def d35 : He.DefD := ⟨("Draft", some "__init__"), "__init__", "Draft.__init__", defArgs (topC 50 0), defBody (topC 50 0), defScope (topC 50 0), [], []⟩
def d36 : He.DefD := ⟨("Draft", some "deed_names"), "deed_names", "Draft.deed_names", defArgs (topC 50 1), defBody (topC 50 1), defScope (topC 50 1), [], []⟩
def d37 : He.DefD := ⟨("add_name", none), "add_name", "add_name", defArgs (top 51), defBody (top 51), defScope (top 51), [], []⟩
def d38 : He.DefD := ⟨("pile_of", none), "pile_of", "pile_of", defArgs (top 52), defBody (top 52), defScope (top 52), [], []⟩
def d39 : He.DefD := ⟨("add_deed", none), "add_deed", "add_deed", defArgs (top 53), defBody (top 53), defScope (top 53), [], []⟩
def d40 : He.DefD := ⟨("done_of", none), "done_of", "done_of", defArgs (top 54), defBody (top 54), defScope (top 54), [], []⟩
def d41 : He.DefD := ⟨("place_in", none), "place_in", "place_in", defArgs (top 55), defBody (top 55), defScope (top 55), [], []⟩
def d42 : He.DefD := ⟨("statement_of", none), "statement_of", "statement_of", defArgs (top 56), defBody (top 56), defScope (top 56), [], []⟩
def d43 : He.DefD := ⟨("body_of", none), "body_of", "body_of", defArgs (top 57), defBody (top 57), defScope (top 57), [], []⟩
def d44 : He.DefD := ⟨("program_of", none), "program_of", "program_of", defArgs (top 58), defBody (top 58), defScope (top 58), [], []⟩
def d45 : He.DefD := ⟨("read_source", none), "read_source", "read_source", defArgs (top 59), defBody (top 59), defScope (top 59), [], []⟩
def d46 : He.DefD := ⟨("_law_box", none), "_law_box", "_law_box", defArgs (top 61), defBody (top 61), defScope (top 61), [], []⟩
def d47 : He.DefD := ⟨("_law_pick", none), "_law_pick", "_law_pick", defArgs (top 62), defBody (top 62), defScope (top 62), [], []⟩
def d48 : He.DefD := ⟨("_law_deeds", none), "_law_deeds", "_law_deeds", defArgs (top 63), defBody (top 63), defScope (top 63), [], []⟩
def d49 : He.DefD := ⟨("_law_program", none), "_law_program", "_law_program", defArgs (top 64), defBody (top 64), defScope (top 64), [], []⟩
def d50 : He.DefD := ⟨("_law_joined", none), "_law_joined", "_law_joined", defArgs (top 65), defBody (top 65), defScope (top 65), [], []⟩
def d51 : He.DefD := ⟨("_law_row", none), "_law_row", "_law_row", defArgs (top 66), defBody (top 66), defScope (top 66), [], []⟩
def d52 : He.DefD := ⟨("_law_is_for", none), "_law_is_for", "_law_is_for", defArgs (top 67), defBody (top 67), defScope (top 67), [], []⟩
def d53 : He.DefD := ⟨("_law_shortest", none), "_law_shortest", "_law_shortest", defArgs (top 68), defBody (top 68), defScope (top 68), [], []⟩
def d54 : He.DefD := ⟨("_law_same", none), "_law_same", "_law_same", defArgs (top 69), defBody (top 69), defScope (top 69), [], []⟩
def d55 : He.DefD := ⟨("_law_bool", none), "_law_bool", "_law_bool", defArgs (top 70), defBody (top 70), defScope (top 70), [], []⟩
def d56 : He.DefD := ⟨("_law_drawn_row", none), "_law_drawn_row", "_law_drawn_row", defArgs (top 71), defBody (top 71), defScope (top 71), [], []⟩
def d57 : He.DefD := ⟨("_law_effects", none), "_law_effects", "_law_effects", defArgs (top 72), defBody (top 72), defScope (top 72), [], []⟩
def d58 : He.DefD := ⟨("_law_asked", none), "_law_asked", "_law_asked", defArgs (top 73), defBody (top 73), defScope (top 73), [], []⟩
def d59 : He.DefD := ⟨("_law_by_hand", none), "_law_by_hand", "_law_by_hand", defArgs (top 74), defBody (top 74), defScope (top 74), [], []⟩
def d60 : He.DefD := ⟨("law", none), "law", "law", defArgs (top 75), defBody (top 75), defScope (top 75), [], []⟩
def fn : List He.DefD := [d0, d1, d2, d3, d4, d5, d6, d7, d8, d9, d10, d11, d12, d13, d14, d15, d16, d17, d18, d19, d20, d21, d22, d23, d24, d25, d26, d27, d28, d29, d30, d31, d32, d33, d34, d35, d36, d37, d38, d39, d40, d41, d42, d43, d44, d45, d46, d47, d48, d49, d50, d51, d52, d53, d54, d55, d56, d57, d58, d59, d60]
def fa : List He.Fa := [.glo "begins", .glo "joined", .glo "all_joined", .glo "extended", .glo "is_extended", .glo "are_alike", .glo "row_effect", .glo "is_row_for", .glo "longer_rows", .glo "shortest_row", .glo "text_lines", .glo "behind_lines", .glo "end_of", .glo "token_at", .glo "line_tokens", .glo "tokens_of", .glo "read_kinds", .glo "read_deed", .glo "read_either", .glo "read_statement", .glo "read_block", .glo "read_words", .glo "tree_of", .glo "refuse", .glo "add_name", .glo "pile_of", .glo "add_deed", .glo "done_of", .glo "place_in", .glo "statement_of", .glo "body_of", .glo "program_of", .glo "read_source", .glo "_law_box", .glo "_law_pick", .glo "_law_deeds", .glo "_law_program", .glo "_law_joined", .glo "_law_row", .glo "_law_is_for", .glo "_law_shortest", .glo "_law_same", .glo "_law_bool", .glo "_law_drawn_row", .glo "_law_effects", .glo "_law_asked", .glo "_law_by_hand", .glo "law", .free "ValueError", .free "abs", .free "bool", .free "enumerate", .free "int", .free "isinstance", .free "len", .free "list", .free "min", .free "range", .free "tuple", .glo "Reader", .cls "Reader", .mkr "Reader", .glo "Draft", .cls "Draft", .mkr "Draft", .meth "Reader" "refuse", .meth "Reader" "here", .meth "Reader" "is_token", .meth "Reader" "is_name", .meth "Reader" "take", .meth "Reader" "name", .meth "Reader" "names", .meth "Reader" "number", .meth "Reader" "word", .meth "Reader" "sign", .meth "Draft" "deed_names", .noat "Draft" "deeds", .noat "Draft" "kinds", .noat "Reader" "last", .noat "Draft" "many", .noat "Draft" "names", .noat "Reader" "place", .noat "Reader" "tokens"]
def exB (K : PySem.W.Frag) : Bool := gB K "BODIES_MOST" K_BODIES_MOST && gB K "DEEDS_MOST" K_DEEDS_MOST && gB K "DEPTH_MOST" K_DEPTH_MOST && gB K "KEPT_WORDS" K_KEPT_WORDS && gB K "KINDS_MOST" K_KINDS_MOST && gB K "NO_EFFECT" K_NO_EFFECT && gB K "REPEAT_MOST" K_REPEAT_MOST && gB K "SIGNS" K_SIGNS && gB K "SMALL_LETTERS" K_SMALL_LETTERS && gB K "STATEMENTS_MOST" K_STATEMENTS_MOST && gB K "TAKEN_MOST" K_TAKEN_MOST && gB K "TEN_FIGURES" K_TEN_FIGURES && gB K "WORDS_MOST" K_WORDS_MOST && gB K "WORD_MOST" K_WORD_MOST
abbrev R : PySem.W.OpenRow := PySem.W.OpenLaw.row PySem.Challenge.rw_pilesfit_k71_whole_deed_rows
abbrev hk : PySem.W.Hook := hookM 5 fa fn exB
def ob (s : PySem.W.SharedT) : AlM := obsM 5 fa fn exB (HandSHeadRun.getT s)
theorem ob_eq (s : PySem.W.SharedT) : ob s = hk.obs s.abs := obsM_eq (HandSHeadRun.getT_eq s)
def loose0 : List PySem.Str := ["NO_EFFECT", "begins", "joined", "all_joined", "extended", "PileError", "TextError", "BadSource", "is_extended", "are_alike", "row_effect", "is_row_for", "longer_rows", "shortest_row", "KINDS_MOST", "DEEDS_MOST", "TAKEN_MOST", "WORDS_MOST", "STATEMENTS_MOST", "BODIES_MOST", "DEPTH_MOST", "REPEAT_MOST", "WORD_MOST", "KEPT_WORDS", "TEN_FIGURES", "SMALL_LETTERS", "text_lines", "behind_lines", "SIGNS", "end_of"]
def loose1 : List PySem.Str := ["token_at", "line_tokens", "tokens_of", "Reader", "read_kinds", "read_deed", "read_either", "read_statement", "read_block", "read_words", "tree_of", "refuse", "Draft", "add_name", "pile_of", "add_deed", "done_of", "place_in", "statement_of", "body_of", "program_of", "read_source", "_law_box", "_law_pick", "_law_deeds", "_law_program", "_law_joined", "_law_row", "_law_is_for", "_law_shortest"]
def loose2 : List PySem.Str := ["_law_same", "_law_bool", "_law_drawn_row", "_law_effects", "_law_asked", "_law_by_hand"]
def loose : List PySem.Str := loose0 ++ loose1 ++ loose2
theorem run (w : World) : HandSHeadRun.RunEq R (PySem.W.view R.prog [75]) hk ob 8000 loose w := by
  intro os
  kernel_rfl
section
variable {Pg : Program} {w : World} {K : PySem.W.Frag} {mg : PySem.Str → Option Value} {base : Heap} {f : Nat → Addr} {fd : Nat → FuncData}
theorem zero_ok {call : Call} (h0 : ∀ i ws h, call i ws h = .bad) (k : Nat) (a : Addr) (d : FuncData) (ps : List PySem.Str) (i : Nat) : FnOk Pg w K mg base (L2.CX Pg w) k a d ps (spF (P1 K) K call i ps.length) :=
  ⟨fun vs H Q E h => h.1, fun A outer s H args us vs Q E hr e0 hb r hsp => by
    obtain ⟨_, μ, h, ws, I, rs, hsp⟩ := hsp
    rw [h0] at hsp
    exact hsp.elim⟩
theorem table (T : Tb K mg f fd) (B : Bt mg) (C : Ct K mg f) : ∀ k j, j < 61 → FnOk Pg w K mg base (L2.CX Pg w) (2 * k) (f j) (fd j) (psOf j) (spF (P1 K) K (callF fns k) j (psOf j).length)
  | 0, j, _ => zero_ok (fun _ _ _ => rfl) 0 _ _ _ _
  | k + 1, j, hj => by
    have Fs := table T B C k
    match j, hj with
    | 0, _ => exact def_ok2 (l := 2 * k + 1) T.D0 sc0 (F := ⟨(psOf 0).length, _, B0⟩) rfl rfl rfl (by decide) fun cdv A outer s H E hr => w0 T B C Fs cdv A outer s H E hr
    | 1, _ => exact def_ok2 (l := 2 * k + 1) T.D1 sc1 (F := ⟨(psOf 1).length, _, B1⟩) rfl rfl rfl (by decide) fun cdv A outer s H E hr => w1 T B C Fs cdv A outer s H E hr
    | 2, _ => exact def_ok2 (l := 2 * k + 1) T.D2 sc2 (F := ⟨(psOf 2).length, _, B2⟩) rfl rfl rfl (by decide) fun cdv A outer s H E hr => w2 T B C Fs cdv A outer s H E hr
    | 3, _ => exact def_ok2 (l := 2 * k + 1) T.D3 sc3 (F := ⟨(psOf 3).length, _, B3⟩) rfl rfl rfl (by decide) fun cdv A outer s H E hr => w3 T B C Fs cdv A outer s H E hr
    | 4, _ => exact def_ok2 (l := 2 * k + 1) T.D4 sc4 (F := ⟨(psOf 4).length, _, B4⟩) rfl rfl rfl (by decide) fun cdv A outer s H E hr => w4 T B C Fs cdv A outer s H E hr
    | 5, _ => exact def_ok2 (l := 2 * k + 1) T.D5 sc5 (F := ⟨(psOf 5).length, _, B5⟩) rfl rfl rfl (by decide) fun cdv A outer s H E hr => w5 T B C Fs cdv A outer s H E hr
    | 6, _ => exact def_ok2 (l := 2 * k + 1) T.D6 sc6 (F := ⟨(psOf 6).length, _, B6⟩) rfl rfl rfl (by decide) fun cdv A outer s H E hr => w6 T B C Fs cdv A outer s H E hr
    | 7, _ => exact def_ok2 (l := 2 * k + 1) T.D7 sc7 (F := ⟨(psOf 7).length, _, B7⟩) rfl rfl rfl (by decide) fun cdv A outer s H E hr => w7 T B C Fs cdv A outer s H E hr
    | 8, _ => exact def_ok2 (l := 2 * k + 1) T.D8 sc8 (F := ⟨(psOf 8).length, _, B8⟩) rfl rfl rfl (by decide) fun cdv A outer s H E hr => w8 T B C Fs cdv A outer s H E hr
    | 9, _ => exact def_ok2 (l := 2 * k + 1) T.D9 sc9 (F := ⟨(psOf 9).length, _, B9⟩) rfl rfl rfl (by decide) fun cdv A outer s H E hr => w9 T B C Fs cdv A outer s H E hr
    | 10, _ => exact def_ok2 (l := 2 * k + 1) T.D10 sc10 (F := ⟨(psOf 10).length, _, B10⟩) rfl rfl rfl (by decide) fun cdv A outer s H E hr => w10 T B C Fs cdv A outer s H E hr
    | 11, _ => exact def_ok2 (l := 2 * k + 1) T.D11 sc11 (F := ⟨(psOf 11).length, _, B11⟩) rfl rfl rfl (by decide) fun cdv A outer s H E hr => w11 T B C Fs cdv A outer s H E hr
    | 12, _ => exact def_ok2 (l := 2 * k + 1) T.D12 sc12 (F := ⟨(psOf 12).length, _, B12⟩) rfl rfl rfl (by decide) fun cdv A outer s H E hr => w12 T B C Fs cdv A outer s H E hr
    | 13, _ => exact def_ok2 (l := 2 * k + 1) T.D13 sc13 (F := ⟨(psOf 13).length, _, B13⟩) rfl rfl rfl (by decide) fun cdv A outer s H E hr => w13 T B C Fs cdv A outer s H E hr
    | 14, _ => exact def_ok2 (l := 2 * k + 1) T.D14 sc14 (F := ⟨(psOf 14).length, _, B14⟩) rfl rfl rfl (by decide) fun cdv A outer s H E hr => w14 T B C Fs cdv A outer s H E hr
    | 15, _ => exact def_ok2 (l := 2 * k + 1) T.D15 sc15 (F := ⟨(psOf 15).length, _, B15⟩) rfl rfl rfl (by decide) fun cdv A outer s H E hr => w15 T B C Fs cdv A outer s H E hr
    | 16, _ => exact def_ok2 (l := 2 * k + 1) T.D16 sc16 (F := ⟨(psOf 16).length, _, B16⟩) rfl rfl rfl (by decide) fun cdv A outer s H E hr => w16 T B C Fs cdv A outer s H E hr
    | 17, _ => exact def_ok2 (l := 2 * k + 1) T.D17 sc17 (F := ⟨(psOf 17).length, _, B17⟩) rfl rfl rfl (by decide) fun cdv A outer s H E hr => w17 T B C Fs cdv A outer s H E hr
    | 18, _ => exact def_ok2 (l := 2 * k + 1) T.D18 sc18 (F := ⟨(psOf 18).length, _, B18⟩) rfl rfl rfl (by decide) fun cdv A outer s H E hr => w18 T B C Fs cdv A outer s H E hr
    | 19, _ => exact def_ok2 (l := 2 * k + 1) T.D19 sc19 (F := ⟨(psOf 19).length, _, B19⟩) rfl rfl rfl (by decide) fun cdv A outer s H E hr => w19 T B C Fs cdv A outer s H E hr
    | 20, _ => exact def_ok2 (l := 2 * k + 1) T.D20 sc20 (F := ⟨(psOf 20).length, _, B20⟩) rfl rfl rfl (by decide) fun cdv A outer s H E hr => w20 T B C Fs cdv A outer s H E hr
    | 21, _ => exact def_ok2 (l := 2 * k + 1) T.D21 sc21 (F := ⟨(psOf 21).length, _, B21⟩) rfl rfl rfl (by decide) fun cdv A outer s H E hr => w21 T B C Fs cdv A outer s H E hr
    | 22, _ => exact def_ok2 (l := 2 * k + 1) T.D22 sc22 (F := ⟨(psOf 22).length, _, B22⟩) rfl rfl rfl (by decide) fun cdv A outer s H E hr => w22 T B C Fs cdv A outer s H E hr
    | 23, _ => exact def_ok2 (l := 2 * k + 1) T.D23 sc23 (F := ⟨(psOf 23).length, _, B23⟩) rfl rfl rfl (by decide) fun cdv A outer s H E hr => w23 T B C Fs cdv A outer s H E hr
    | 24, _ => exact def_ok2 (l := 2 * k + 1) T.D24 sc24 (F := ⟨(psOf 24).length, _, B24⟩) rfl rfl rfl (by decide) fun cdv A outer s H E hr => w24 T B C Fs cdv A outer s H E hr
    | 25, _ => exact def_ok2 (l := 2 * k + 1) T.D25 sc25 (F := ⟨(psOf 25).length, _, B25⟩) rfl rfl rfl (by decide) fun cdv A outer s H E hr => w25 T B C Fs cdv A outer s H E hr
    | 26, _ => exact def_ok2 (l := 2 * k + 1) T.D26 sc26 (F := ⟨(psOf 26).length, _, B26⟩) rfl rfl rfl (by decide) fun cdv A outer s H E hr => w26 T B C Fs cdv A outer s H E hr
    | 27, _ => exact def_ok2 (l := 2 * k + 1) T.D27 sc27 (F := ⟨(psOf 27).length, _, B27⟩) rfl rfl rfl (by decide) fun cdv A outer s H E hr => w27 T B C Fs cdv A outer s H E hr
    | 28, _ => exact def_ok2 (l := 2 * k + 1) T.D28 sc28 (F := ⟨(psOf 28).length, _, B28⟩) rfl rfl rfl (by decide) fun cdv A outer s H E hr => w28 T B C Fs cdv A outer s H E hr
    | 29, _ => exact def_ok2 (l := 2 * k + 1) T.D29 sc29 (F := ⟨(psOf 29).length, _, B29⟩) rfl rfl rfl (by decide) fun cdv A outer s H E hr => w29 T B C Fs cdv A outer s H E hr
    | 30, _ => exact def_ok2 (l := 2 * k + 1) T.D30 sc30 (F := ⟨(psOf 30).length, _, B30⟩) rfl rfl rfl (by decide) fun cdv A outer s H E hr => w30 T B C Fs cdv A outer s H E hr
    | 31, _ => exact def_ok2 (l := 2 * k + 1) T.D31 sc31 (F := ⟨(psOf 31).length, _, B31⟩) rfl rfl rfl (by decide) fun cdv A outer s H E hr => w31 T B C Fs cdv A outer s H E hr
    | 32, _ => exact def_ok2 (l := 2 * k + 1) T.D32 sc32 (F := ⟨(psOf 32).length, _, B32⟩) rfl rfl rfl (by decide) fun cdv A outer s H E hr => w32 T B C Fs cdv A outer s H E hr
    | 33, _ => exact def_ok2 (l := 2 * k + 1) T.D33 sc33 (F := ⟨(psOf 33).length, _, B33⟩) rfl rfl rfl (by decide) fun cdv A outer s H E hr => w33 T B C Fs cdv A outer s H E hr
    | 34, _ => exact def_ok2 (l := 2 * k + 1) T.D34 sc34 (F := ⟨(psOf 34).length, _, B34⟩) rfl rfl rfl (by decide) fun cdv A outer s H E hr => w34 T B C Fs cdv A outer s H E hr
    | 35, _ => exact def_ok2 (l := 2 * k + 1) T.D35 sc35 (F := ⟨(psOf 35).length, _, B35⟩) rfl rfl rfl (by decide) fun cdv A outer s H E hr => w35 T B C Fs cdv A outer s H E hr
    | 36, _ => exact def_ok2 (l := 2 * k + 1) T.D36 sc36 (F := ⟨(psOf 36).length, _, B36⟩) rfl rfl rfl (by decide) fun cdv A outer s H E hr => w36 T B C Fs cdv A outer s H E hr
    | 37, _ => exact def_ok2 (l := 2 * k + 1) T.D37 sc37 (F := ⟨(psOf 37).length, _, B37⟩) rfl rfl rfl (by decide) fun cdv A outer s H E hr => w37 T B C Fs cdv A outer s H E hr
    | 38, _ => exact def_ok2 (l := 2 * k + 1) T.D38 sc38 (F := ⟨(psOf 38).length, _, B38⟩) rfl rfl rfl (by decide) fun cdv A outer s H E hr => w38 T B C Fs cdv A outer s H E hr
    | 39, _ => exact def_ok2 (l := 2 * k + 1) T.D39 sc39 (F := ⟨(psOf 39).length, _, B39⟩) rfl rfl rfl (by decide) fun cdv A outer s H E hr => w39 T B C Fs cdv A outer s H E hr
    | 40, _ => exact def_ok2 (l := 2 * k + 1) T.D40 sc40 (F := ⟨(psOf 40).length, _, B40⟩) rfl rfl rfl (by decide) fun cdv A outer s H E hr => w40 T B C Fs cdv A outer s H E hr
    | 41, _ => exact def_ok2 (l := 2 * k + 1) T.D41 sc41 (F := ⟨(psOf 41).length, _, B41⟩) rfl rfl rfl (by decide) fun cdv A outer s H E hr => w41 T B C Fs cdv A outer s H E hr
    | 42, _ => exact def_ok2 (l := 2 * k + 1) T.D42 sc42 (F := ⟨(psOf 42).length, _, B42⟩) rfl rfl rfl (by decide) fun cdv A outer s H E hr => w42 T B C Fs cdv A outer s H E hr
    | 43, _ => exact def_ok2 (l := 2 * k + 1) T.D43 sc43 (F := ⟨(psOf 43).length, _, B43⟩) rfl rfl rfl (by decide) fun cdv A outer s H E hr => w43 T B C Fs cdv A outer s H E hr
    | 44, _ => exact def_ok2 (l := 2 * k + 1) T.D44 sc44 (F := ⟨(psOf 44).length, _, B44⟩) rfl rfl rfl (by decide) fun cdv A outer s H E hr => w44 T B C Fs cdv A outer s H E hr
    | 45, _ => exact def_ok2 (l := 2 * k + 1) T.D45 sc45 (F := ⟨(psOf 45).length, _, B45⟩) rfl rfl rfl (by decide) fun cdv A outer s H E hr => w45 T B C Fs cdv A outer s H E hr
    | 46, _ => exact def_ok2 (l := 2 * k + 1) T.D46 sc46 (F := ⟨(psOf 46).length, _, B46⟩) rfl rfl rfl (by decide) fun cdv A outer s H E hr => w46 T B C Fs cdv A outer s H E hr
    | 47, _ => exact def_ok2 (l := 2 * k + 1) T.D47 sc47 (F := ⟨(psOf 47).length, _, B47⟩) rfl rfl rfl (by decide) fun cdv A outer s H E hr => w47 T B C Fs cdv A outer s H E hr
    | 48, _ => exact def_ok2 (l := 2 * k + 1) T.D48 sc48 (F := ⟨(psOf 48).length, _, B48⟩) rfl rfl rfl (by decide) fun cdv A outer s H E hr => w48 T B C Fs cdv A outer s H E hr
    | 49, _ => exact def_ok2 (l := 2 * k + 1) T.D49 sc49 (F := ⟨(psOf 49).length, _, B49⟩) rfl rfl rfl (by decide) fun cdv A outer s H E hr => w49 T B C Fs cdv A outer s H E hr
    | 50, _ => exact def_ok2 (l := 2 * k + 1) T.D50 sc50 (F := ⟨(psOf 50).length, _, B50⟩) rfl rfl rfl (by decide) fun cdv A outer s H E hr => w50 T B C Fs cdv A outer s H E hr
    | 51, _ => exact def_ok2 (l := 2 * k + 1) T.D51 sc51 (F := ⟨(psOf 51).length, _, B51⟩) rfl rfl rfl (by decide) fun cdv A outer s H E hr => w51 T B C Fs cdv A outer s H E hr
    | 52, _ => exact def_ok2 (l := 2 * k + 1) T.D52 sc52 (F := ⟨(psOf 52).length, _, B52⟩) rfl rfl rfl (by decide) fun cdv A outer s H E hr => w52 T B C Fs cdv A outer s H E hr
    | 53, _ => exact def_ok2 (l := 2 * k + 1) T.D53 sc53 (F := ⟨(psOf 53).length, _, B53⟩) rfl rfl rfl (by decide) fun cdv A outer s H E hr => w53 T B C Fs cdv A outer s H E hr
    | 54, _ => exact def_ok2 (l := 2 * k + 1) T.D54 sc54 (F := ⟨(psOf 54).length, _, B54⟩) rfl rfl rfl (by decide) fun cdv A outer s H E hr => w54 T B C Fs cdv A outer s H E hr
    | 55, _ => exact def_ok2 (l := 2 * k + 1) T.D55 sc55 (F := ⟨(psOf 55).length, _, B55⟩) rfl rfl rfl (by decide) fun cdv A outer s H E hr => w55 T B C Fs cdv A outer s H E hr
    | 56, _ => exact def_ok2 (l := 2 * k + 1) T.D56 sc56 (F := ⟨(psOf 56).length, _, B56⟩) rfl rfl rfl (by decide) fun cdv A outer s H E hr => w56 T B C Fs cdv A outer s H E hr
    | 57, _ => exact def_ok2 (l := 2 * k + 1) T.D57 sc57 (F := ⟨(psOf 57).length, _, B57⟩) rfl rfl rfl (by decide) fun cdv A outer s H E hr => w57 T B C Fs cdv A outer s H E hr
    | 58, _ => exact def_ok2 (l := 2 * k + 1) T.D58 sc58 (F := ⟨(psOf 58).length, _, B58⟩) rfl rfl rfl (by decide) fun cdv A outer s H E hr => w58 T B C Fs cdv A outer s H E hr
    | 59, _ => exact def_ok2 (l := 2 * k + 1) T.D59 sc59 (F := ⟨(psOf 59).length, _, B59⟩) rfl rfl rfl (by decide) fun cdv A outer s H E hr => w59 T B C Fs cdv A outer s H E hr
    | 60, _ => exact def_ok2 (l := 2 * k + 1) T.D60 sc60 (F := ⟨(psOf 60).length, _, B60⟩) rfl rfl rfl (by decide) fun cdv A outer s H E hr => w60 T B C Fs cdv A outer s H E hr
    | n + 61, h => exact absurd h (by omega)
end
def CXw (P : Program) : CXT := fun outer H s E u s' => ∃ w, L2.CX P w outer H s E u s'
def fAt (K : PySem.W.Frag) : Nat → Addr
  | 0 => He.ga K "begins"
  | 1 => He.ga K "joined"
  | 2 => He.ga K "all_joined"
  | 3 => He.ga K "extended"
  | 4 => He.ga K "is_extended"
  | 5 => He.ga K "are_alike"
  | 6 => He.ga K "row_effect"
  | 7 => He.ga K "is_row_for"
  | 8 => He.ga K "longer_rows"
  | 9 => He.ga K "shortest_row"
  | 10 => He.ga K "text_lines"
  | 11 => He.ga K "behind_lines"
  | 12 => He.ga K "end_of"
  | 13 => He.ga K "token_at"
  | 14 => He.ga K "line_tokens"
  | 15 => He.ga K "tokens_of"
  | 16 => He.ma K (He.ga K "Reader") "__init__"
  | 17 => He.ma K (He.ga K "Reader") "refuse"
  | 18 => He.ma K (He.ga K "Reader") "here"
  | 19 => He.ma K (He.ga K "Reader") "is_token"
  | 20 => He.ma K (He.ga K "Reader") "is_name"
  | 21 => He.ma K (He.ga K "Reader") "take"
  | 22 => He.ma K (He.ga K "Reader") "name"
  | 23 => He.ma K (He.ga K "Reader") "names"
  | 24 => He.ma K (He.ga K "Reader") "number"
  | 25 => He.ma K (He.ga K "Reader") "word"
  | 26 => He.ma K (He.ga K "Reader") "sign"
  | 27 => He.ga K "read_kinds"
  | 28 => He.ga K "read_deed"
  | 29 => He.ga K "read_either"
  | 30 => He.ga K "read_statement"
  | 31 => He.ga K "read_block"
  | 32 => He.ga K "read_words"
  | 33 => He.ga K "tree_of"
  | 34 => He.ga K "refuse"
  | 35 => He.ma K (He.ga K "Draft") "__init__"
  | 36 => He.ma K (He.ga K "Draft") "deed_names"
  | 37 => He.ga K "add_name"
  | 38 => He.ga K "pile_of"
  | 39 => He.ga K "add_deed"
  | 40 => He.ga K "done_of"
  | 41 => He.ga K "place_in"
  | 42 => He.ga K "statement_of"
  | 43 => He.ga K "body_of"
  | 44 => He.ga K "program_of"
  | 45 => He.ga K "read_source"
  | 46 => He.ga K "_law_box"
  | 47 => He.ga K "_law_pick"
  | 48 => He.ga K "_law_deeds"
  | 49 => He.ga K "_law_program"
  | 50 => He.ga K "_law_joined"
  | 51 => He.ga K "_law_row"
  | 52 => He.ga K "_law_is_for"
  | 53 => He.ga K "_law_shortest"
  | 54 => He.ga K "_law_same"
  | 55 => He.ga K "_law_bool"
  | 56 => He.ga K "_law_drawn_row"
  | 57 => He.ga K "_law_effects"
  | 58 => He.ga K "_law_asked"
  | 59 => He.ga K "_law_by_hand"
  | 60 => He.ga K "law"
  | _ => 0
theorem facts {K : PySem.W.Frag} {h : Heap} {mg : PySem.Str → Option Value} (X : K.In h) (G : h.Ns mainGlobals mg) (c : He.SaysD fa fn K) (ce : exB K = true) : ∃ f fd, Tb K mg f fd ∧ Bt mg ∧ Ct K mg f := by
  obtain ⟨fd0, D0⟩ := c.def_ 0 (d := d0) rfl
  obtain ⟨fd1, D1⟩ := c.def_ 1 (d := d1) rfl
  obtain ⟨fd2, D2⟩ := c.def_ 2 (d := d2) rfl
  obtain ⟨fd3, D3⟩ := c.def_ 3 (d := d3) rfl
  obtain ⟨fd4, D4⟩ := c.def_ 4 (d := d4) rfl
  obtain ⟨fd5, D5⟩ := c.def_ 5 (d := d5) rfl
  obtain ⟨fd6, D6⟩ := c.def_ 6 (d := d6) rfl
  obtain ⟨fd7, D7⟩ := c.def_ 7 (d := d7) rfl
  obtain ⟨fd8, D8⟩ := c.def_ 8 (d := d8) rfl
  obtain ⟨fd9, D9⟩ := c.def_ 9 (d := d9) rfl
  obtain ⟨fd10, D10⟩ := c.def_ 10 (d := d10) rfl
  obtain ⟨fd11, D11⟩ := c.def_ 11 (d := d11) rfl
  obtain ⟨fd12, D12⟩ := c.def_ 12 (d := d12) rfl
  obtain ⟨fd13, D13⟩ := c.def_ 13 (d := d13) rfl
  obtain ⟨fd14, D14⟩ := c.def_ 14 (d := d14) rfl
  obtain ⟨fd15, D15⟩ := c.def_ 15 (d := d15) rfl
  obtain ⟨fd16, D16⟩ := c.def_ 16 (d := d16) rfl
  obtain ⟨fd17, D17⟩ := c.def_ 17 (d := d17) rfl
  obtain ⟨fd18, D18⟩ := c.def_ 18 (d := d18) rfl
  obtain ⟨fd19, D19⟩ := c.def_ 19 (d := d19) rfl
  obtain ⟨fd20, D20⟩ := c.def_ 20 (d := d20) rfl
  obtain ⟨fd21, D21⟩ := c.def_ 21 (d := d21) rfl
  obtain ⟨fd22, D22⟩ := c.def_ 22 (d := d22) rfl
  obtain ⟨fd23, D23⟩ := c.def_ 23 (d := d23) rfl
  obtain ⟨fd24, D24⟩ := c.def_ 24 (d := d24) rfl
  obtain ⟨fd25, D25⟩ := c.def_ 25 (d := d25) rfl
  obtain ⟨fd26, D26⟩ := c.def_ 26 (d := d26) rfl
  obtain ⟨fd27, D27⟩ := c.def_ 27 (d := d27) rfl
  obtain ⟨fd28, D28⟩ := c.def_ 28 (d := d28) rfl
  obtain ⟨fd29, D29⟩ := c.def_ 29 (d := d29) rfl
  obtain ⟨fd30, D30⟩ := c.def_ 30 (d := d30) rfl
  obtain ⟨fd31, D31⟩ := c.def_ 31 (d := d31) rfl
  obtain ⟨fd32, D32⟩ := c.def_ 32 (d := d32) rfl
  obtain ⟨fd33, D33⟩ := c.def_ 33 (d := d33) rfl
  obtain ⟨fd34, D34⟩ := c.def_ 34 (d := d34) rfl
  obtain ⟨fd35, D35⟩ := c.def_ 35 (d := d35) rfl
  obtain ⟨fd36, D36⟩ := c.def_ 36 (d := d36) rfl
  obtain ⟨fd37, D37⟩ := c.def_ 37 (d := d37) rfl
  obtain ⟨fd38, D38⟩ := c.def_ 38 (d := d38) rfl
  obtain ⟨fd39, D39⟩ := c.def_ 39 (d := d39) rfl
  obtain ⟨fd40, D40⟩ := c.def_ 40 (d := d40) rfl
  obtain ⟨fd41, D41⟩ := c.def_ 41 (d := d41) rfl
  obtain ⟨fd42, D42⟩ := c.def_ 42 (d := d42) rfl
  obtain ⟨fd43, D43⟩ := c.def_ 43 (d := d43) rfl
  obtain ⟨fd44, D44⟩ := c.def_ 44 (d := d44) rfl
  obtain ⟨fd45, D45⟩ := c.def_ 45 (d := d45) rfl
  obtain ⟨fd46, D46⟩ := c.def_ 46 (d := d46) rfl
  obtain ⟨fd47, D47⟩ := c.def_ 47 (d := d47) rfl
  obtain ⟨fd48, D48⟩ := c.def_ 48 (d := d48) rfl
  obtain ⟨fd49, D49⟩ := c.def_ 49 (d := d49) rfl
  obtain ⟨fd50, D50⟩ := c.def_ 50 (d := d50) rfl
  obtain ⟨fd51, D51⟩ := c.def_ 51 (d := d51) rfl
  obtain ⟨fd52, D52⟩ := c.def_ 52 (d := d52) rfl
  obtain ⟨fd53, D53⟩ := c.def_ 53 (d := d53) rfl
  obtain ⟨fd54, D54⟩ := c.def_ 54 (d := d54) rfl
  obtain ⟨fd55, D55⟩ := c.def_ 55 (d := d55) rfl
  obtain ⟨fd56, D56⟩ := c.def_ 56 (d := d56) rfl
  obtain ⟨fd57, D57⟩ := c.def_ 57 (d := d57) rfl
  obtain ⟨fd58, D58⟩ := c.def_ 58 (d := d58) rfl
  obtain ⟨fd59, D59⟩ := c.def_ 59 (d := d59) rfl
  obtain ⟨fd60, D60⟩ := c.def_ 60 (d := d60) rfl
  unfold exB at ce
  simp only [Bool.and_eq_true] at ce
  obtain ⟨⟨⟨⟨⟨⟨⟨⟨⟨⟨⟨⟨⟨e0, e1⟩, e2⟩, e3⟩, e4⟩, e5⟩, e6⟩, e7⟩, e8⟩, e9⟩, e10⟩, e11⟩, e12⟩, e13⟩ := ce
  have T : Tb K mg (fAt K) (fun j => [fd0, fd1, fd2, fd3, fd4, fd5, fd6, fd7, fd8, fd9, fd10, fd11, fd12, fd13, fd14, fd15, fd16, fd17, fd18, fd19, fd20, fd21, fd22, fd23, fd24, fd25, fd26, fd27, fd28, fd29, fd30, fd31, fd32, fd33, fd34, fd35, fd36, fd37, fd38, fd39, fd40, fd41, fd42, fd43, fd44, fd45, fd46, fd47, fd48, fd49, fd50, fd51, fd52, fd53, fd54, fd55, fd56, fd57, fd58, fd59, fd60].getD j fd0) := ⟨D0, He.glo_ok X G (c.fact 0 (f := .glo "begins") rfl), D1, He.glo_ok X G (c.fact 1 (f := .glo "joined") rfl), D2, He.glo_ok X G (c.fact 2 (f := .glo "all_joined") rfl), D3, He.glo_ok X G (c.fact 3 (f := .glo "extended") rfl), D4, He.glo_ok X G (c.fact 4 (f := .glo "is_extended") rfl), D5, He.glo_ok X G (c.fact 5 (f := .glo "are_alike") rfl), D6, He.glo_ok X G (c.fact 6 (f := .glo "row_effect") rfl), D7, He.glo_ok X G (c.fact 7 (f := .glo "is_row_for") rfl), D8, He.glo_ok X G (c.fact 8 (f := .glo "longer_rows") rfl), D9, He.glo_ok X G (c.fact 9 (f := .glo "shortest_row") rfl), D10, He.glo_ok X G (c.fact 10 (f := .glo "text_lines") rfl), D11, He.glo_ok X G (c.fact 11 (f := .glo "behind_lines") rfl), D12, He.glo_ok X G (c.fact 12 (f := .glo "end_of") rfl), D13, He.glo_ok X G (c.fact 13 (f := .glo "token_at") rfl), D14, He.glo_ok X G (c.fact 14 (f := .glo "line_tokens") rfl), D15, He.glo_ok X G (c.fact 15 (f := .glo "tokens_of") rfl), D16, D17, D18, D19, D20, D21, D22, D23, D24, D25, D26, D27, He.glo_ok X G (c.fact 16 (f := .glo "read_kinds") rfl), D28, He.glo_ok X G (c.fact 17 (f := .glo "read_deed") rfl), D29, He.glo_ok X G (c.fact 18 (f := .glo "read_either") rfl), D30, He.glo_ok X G (c.fact 19 (f := .glo "read_statement") rfl), D31, He.glo_ok X G (c.fact 20 (f := .glo "read_block") rfl), D32, He.glo_ok X G (c.fact 21 (f := .glo "read_words") rfl), D33, He.glo_ok X G (c.fact 22 (f := .glo "tree_of") rfl), D34, He.glo_ok X G (c.fact 23 (f := .glo "refuse") rfl), D35, D36, D37, He.glo_ok X G (c.fact 24 (f := .glo "add_name") rfl), D38, He.glo_ok X G (c.fact 25 (f := .glo "pile_of") rfl), D39, He.glo_ok X G (c.fact 26 (f := .glo "add_deed") rfl), D40, He.glo_ok X G (c.fact 27 (f := .glo "done_of") rfl), D41, He.glo_ok X G (c.fact 28 (f := .glo "place_in") rfl), D42, He.glo_ok X G (c.fact 29 (f := .glo "statement_of") rfl), D43, He.glo_ok X G (c.fact 30 (f := .glo "body_of") rfl), D44, He.glo_ok X G (c.fact 31 (f := .glo "program_of") rfl), D45, He.glo_ok X G (c.fact 32 (f := .glo "read_source") rfl), D46, He.glo_ok X G (c.fact 33 (f := .glo "_law_box") rfl), D47, He.glo_ok X G (c.fact 34 (f := .glo "_law_pick") rfl), D48, He.glo_ok X G (c.fact 35 (f := .glo "_law_deeds") rfl), D49, He.glo_ok X G (c.fact 36 (f := .glo "_law_program") rfl), D50, He.glo_ok X G (c.fact 37 (f := .glo "_law_joined") rfl), D51, He.glo_ok X G (c.fact 38 (f := .glo "_law_row") rfl), D52, He.glo_ok X G (c.fact 39 (f := .glo "_law_is_for") rfl), D53, He.glo_ok X G (c.fact 40 (f := .glo "_law_shortest") rfl), D54, He.glo_ok X G (c.fact 41 (f := .glo "_law_same") rfl), D55, He.glo_ok X G (c.fact 42 (f := .glo "_law_bool") rfl), D56, He.glo_ok X G (c.fact 43 (f := .glo "_law_drawn_row") rfl), D57, He.glo_ok X G (c.fact 44 (f := .glo "_law_effects") rfl), D58, He.glo_ok X G (c.fact 45 (f := .glo "_law_asked") rfl), D59, He.glo_ok X G (c.fact 46 (f := .glo "_law_by_hand") rfl), D60, He.glo_ok X G (c.fact 47 (f := .glo "law") rfl)⟩
  have B : Bt mg := ⟨He.free_ok X G (c.fact 48 (f := .free "ValueError") rfl), He.free_ok X G (c.fact 49 (f := .free "abs") rfl), He.free_ok X G (c.fact 50 (f := .free "bool") rfl), He.free_ok X G (c.fact 51 (f := .free "enumerate") rfl), He.free_ok X G (c.fact 52 (f := .free "int") rfl), He.free_ok X G (c.fact 53 (f := .free "isinstance") rfl), He.free_ok X G (c.fact 54 (f := .free "len") rfl), He.free_ok X G (c.fact 55 (f := .free "list") rfl), He.free_ok X G (c.fact 56 (f := .free "min") rfl), He.free_ok X G (c.fact 57 (f := .free "range") rfl), He.free_ok X G (c.fact 58 (f := .free "tuple") rfl)⟩
  have C : Ct K mg (fAt K) := ⟨trivial, gB_ok X G e0, gB_ok X G e1, gB_ok X G e2, gB_ok X G e3, gB_ok X G e4, gB_ok X G e5, gB_ok X G e6, gB_ok X G e7, gB_ok X G e8, gB_ok X G e9, gB_ok X G e10, gB_ok X G e11, gB_ok X G e12, gB_ok X G e13, He.glo_ok X G (c.fact 59 (f := .glo "Reader") rfl), He.cls_ok (c.fact 60 (f := .cls "Reader") rfl), He.mkr_ok (c.fact 61 (f := .mkr "Reader") rfl), He.glo_ok X G (c.fact 62 (f := .glo "Draft") rfl), He.cls_ok (c.fact 63 (f := .cls "Draft") rfl), He.mkr_ok (c.fact 64 (f := .mkr "Draft") rfl), He.meth_ok (c.fact 65 (f := .meth "Reader" "refuse") rfl), He.meth_ok (c.fact 66 (f := .meth "Reader" "here") rfl), He.meth_ok (c.fact 67 (f := .meth "Reader" "is_token") rfl), He.meth_ok (c.fact 68 (f := .meth "Reader" "is_name") rfl), He.meth_ok (c.fact 69 (f := .meth "Reader" "take") rfl), He.meth_ok (c.fact 70 (f := .meth "Reader" "name") rfl), He.meth_ok (c.fact 71 (f := .meth "Reader" "names") rfl), He.meth_ok (c.fact 72 (f := .meth "Reader" "number") rfl), He.meth_ok (c.fact 73 (f := .meth "Reader" "word") rfl), He.meth_ok (c.fact 74 (f := .meth "Reader" "sign") rfl), He.meth_ok (c.fact 75 (f := .meth "Draft" "deed_names") rfl), He.noat_ok (c.fact 76 (f := .noat "Draft" "deeds") rfl), He.noat_ok (c.fact 77 (f := .noat "Draft" "kinds") rfl), He.noat_ok (c.fact 78 (f := .noat "Reader" "last") rfl), He.noat_ok (c.fact 79 (f := .noat "Draft" "many") rfl), He.noat_ok (c.fact 80 (f := .noat "Draft" "names") rfl), He.noat_ok (c.fact 81 (f := .noat "Reader" "place") rfl), He.noat_ok (c.fact 82 (f := .noat "Reader" "tokens") rfl)⟩
  exact ⟨_, _, T, B, C⟩
/-- what the law's def is to answer -/
def LawSays : Prop := ∀ ns : List Int, ns.length ≤ 63 → ∃ h, callF fns 40 60 [.scr ns] [] = .ok (bR true) h
theorem law_sp {K : PySem.W.Frag} {H : Hp} {a : Addr} {ns : List Int} (L : LawSays) (hl : ns.length ≤ 63) (hO : Only H) (hS : SqL K H a (ns.map V.int)) : spF (P1 K) K (callF fns 40) 60 1 [.ref a] H (fun v _ => v = .bl true) fun _ _ _ => False := by
  have fz : FzL K H a (ns.map V.int) := by
    rcases hS with (h | h) | h
    · rcases hO a with z | ⟨o, xs, z⟩
      · rw [z] at h; cases h
      · rw [z] at h; cases h
    · exact .inl h
    · exact .inr h
  obtain ⟨h, e⟩ := L ns hl
  refine ⟨rfl, [], [], [.scr ns], ⟨.nil, .nil, .nil, fun i a z => by obtain ⟨⟨o, z⟩, _⟩ := z; simp at z, fun i j a z => by obtain ⟨⟨o, z⟩, _⟩ := z; simp at z⟩, .cons (.scr fz) .nil, ?_⟩
  rw [e]
  exact fun μ' H' v A r _ => rep_bl r
end HeadT
open PySem PySem.W PySem.Calls PyProof.Rows
theorem PySem.Challenge.cw_pilesfit_k71_whole_deed_rows_holds : PySem.Challenge.rw_pilesfit_k71_whole_deed_rows.Holds := by
  have L : HeadT.LawSays := HeadT.law_ok
  w_on; o_law
  refine HandSHeadRun.head_any (r := OpenLaw.row PySem.Challenge.rw_pilesfit_k71_whole_deed_rows) (q := view (OpenLaw.row PySem.Challenge.rw_pilesfit_k71_whole_deed_rows).prog [75]) (H := HeadT.hk) (ob := HeadT.ob) (M := 8000) (loose := HeadT.loose) (d := HandSHeadRun.topDef (OpenLaw.row PySem.Challenge.rw_pilesfit_k71_whole_deed_rows).prog 75) (kwd := []) HeadT.ob_eq
    (by kernel_rfl) (fun s => by kernel_rfl) HeadT.run (by kernel_rfl) (by kernel_rfl) (by kernel_rfl) (by rfl) (by first | assumption | decide +kernel) (by decide +kernel) ⟨rfl, rfl, rfl, rfl, rfl, by decide +kernel⟩ ?hw ?hc
  case hw => w_witness2
  case hc =>
    refine L2.walk_ofE (l := PySem.Challenge.rw_pilesfit_k71_whole_deed_rows) (n := 63) (k := 2 * 40) (x := "script") (CX := HeadT.CXw (PySem.Challenge.rw_pilesfit_k71_whole_deed_rows).prog) rfl (by decide) (by kernel_rfl) ⟨rfl, by decide, by decide⟩ ?F (fun H s e s' z => by
      obtain ⟨w, _, _, _, _, _, _, _, _, _, _, _, _, z⟩ := z
      exact z)
    intro w mg fa h Y G hmg0
    obtain ⟨K, KX, c, ce⟩ := Y
    have hmg : mg ("law" : PySem.Str) = some (.ref fa) := by
      have e : (HandSHeadRun.topDef (OpenLaw.row PySem.Challenge.rw_pilesfit_k71_whole_deed_rows).prog 75).name = ("law" : PySem.Str) := by kernel_rfl
      rw [← e]
      exact hmg0
    obtain ⟨f, fd, T, B, C⟩ := HeadT.facts KX G c ce
    have e := hmg.symm.trans T.g60
    cases e
    refine ⟨K, fd 60, _, KX, fun s u => ?_, fun H a ns hl hO hS => HeadT.law_sp L hl hO hS, fun base hb hg => ?_⟩
    · exact T.D60.bindsA (ps := ["script"]) (fun _ _ _ _ _ _ us hl => match us, hl with | [_], _ => rfl) s [u] rfl
    · have F := HeadT.table (Pg := (PySem.Challenge.rw_pilesfit_k71_whole_deed_rows).prog) (w := w) (base := base) T B C 40 60 (by decide)
      exact ⟨F.len, fun A outer s H args us vs Q E hr e0 hb r hsp => codeAny_mono (F.run A outer s H args us vs Q E hr e0 hb r hsp) fun r s' q => by
        cases r with
        | ok fl => cases fl <;> exact q
        | error e => exact ⟨w, q⟩⟩

