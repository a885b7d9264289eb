import PyProof.Rows.All
import Wide.All
import OpenK.AllK
import Wide.FinOn
import HandS.ForExc
import HandS.Wide
import HandS.Gcd
import HandS.IsInst
import HandS.ExcInit
import HandS.ExcIs
import HandS.CallSlots
import HandS.Iter
import HandS.Walk
import HandS.Comp
import HandS.Defaults
import HandS.TupAny
import HandS.List
import HandS.TupMul
import HandS.Deep
import HandS.More
import KE.KMathGC
import HandS.Text
import HandS.Zip
import KE.KExcIs
import HandS.ExcField
import HandS.HeadHook2
import HandS.Style
import HandS.Dict
import HandS.Head0
import HandS.Head1
import HandS.Head2
import HandS.Head3
import HandS.HeadEnd
import HandS.HeadHook1
import HandS.Words
import PySem.Challenge.RW_wholerates_k03_whole_polynomials_judged
set_option Elab.async false
set_option linter.all false
set_option maxRecDepth 100000
set_option maxHeartbeats 2000000
/-! PyA: plain data, the store of what is changed, what an expression or a statement yields: plain functions, no program in sight. -/
namespace Py
open PySem (Str sizeLine)

/-- a value as plain data: tuples, lists that nobody changes, exceptions are what they hold; ref n: the n-th object of the store -/
inductive D where
  | non | bl (b : Bool) | int (i : Int) | str (x : Str)
  | tup (xs : List D) | lst (xs : List D) | ref (n : Nat) | exc (c : Nat) (v : D)
  /-- the law's own list of ints: nobody changes it -/
  | fls (is : List Int)
  /-- a dict that nobody changes: its keys, its values -/
  | dct (ks : List (Sum Int Str)) (vs : List D)
  deriving Inhabited
/-- what is changed -/
inductive O where
  | dead | lst (xs : List D)
abbrev Store := List O
inductive R (α : Type) where
  | ok (a : α) (S : Store) | err (c : Nat) (v : D) (S : Store) | bad
@[simp] def R.bind {α β : Type} (r : R α) (f : α → Store → R β) : R β := match r with
  | .ok a S => f a S | .err c v S => .err c v S | .bad => .bad
abbrev Env := List (Option D)
abbrev Den := Env → Store → R D
abbrev Dens := Env → Store → R (List D)
abbrev DenT := Env → Store → R Bool
inductive RS where
  | next (e : Env) (S : Store) | ret (d : D) (S : Store) | brk (e : Env) (S : Store) | cont (e : Env) (S : Store)
  | err (c : Nat) (v : D) (e : Env) (S : Store) | bad
abbrev DenS := Env → Store → RS
/-- the defs that may be called: by number -/
abbrev Calls := Nat → List D → Store → R D

@[simp] def R.ofO {α : Type} (o : Option α) (S : Store) : R α := match o with | some a => .ok a S | none => .bad

/-! ### expressions -/
def eVar (i : Nat) : Den := fun e S => match e[i]? with | some (some d) => .ok d S | _ => .bad
def eC (d : D) : Den := fun _ S => .ok d S
def dNil : Dens := fun _ S => .ok [] S
def dCons (f : Den) (g : Dens) : Dens := fun e S => (f e S).bind fun a S1 => (g e S1).bind fun as S2 => .ok (a :: as) S2
def eTup (g : Dens) : Den := fun e S => (g e S).bind fun as S1 => .ok (.tup as) S1
def eLst (g : Dens) : Den := fun e S => (g e S).bind fun as S1 => .ok (.lst as) S1
/-- a fresh list that will be changed -/
def eNew (g : Dens) : Den := fun e S => (g e S).bind fun as S1 => .ok (.ref S1.length) (S1 ++ [.lst as])
abbrev Op2 := D → D → Store → R D
abbrev Op1 := D → Store → R D
def eBin (o : Op2) (f g : Den) : Den := fun e S => (f e S).bind fun a S1 => (g e S1).bind fun b S2 => o a b S2
def eUn (o : Op1) (f : Den) : Den := fun e S => (f e S).bind fun a S1 => o a S1
/-- a built-in function of values -/
abbrev OpN := List D → Store → R D
def eFn (o : OpN) (g : Dens) : Den := fun e S => (g e S).bind fun as S1 => o as S1
def eCall (Γ : Calls) (i : Nat) (g : Dens) : Den := fun e S => (g e S).bind fun as S1 => Γ i as S1
/-- with keywords: the values in the order of the parameters by p -/
def eCallK (Γ : Calls) (i : Nat) (p : List D → List D → List D) (g h : Dens) : Den := fun e S => (g e S).bind fun as S1 => (h e S1).bind fun bs S2 => Γ i (p as bs) S2
def eIf (t : DenT) (f g : Den) : Den := fun e S => (t e S).bind fun b S1 => if b then f e S1 else g e S1

/-! ### what values do -/
def asL (d : D) (S : Store) : Option (List D) := match d with
  | .lst xs => some xs
  | .ref n => (match S[n]? with | some (.lst xs) => some xs | _ => none)
  | _ => none
/-- a list or a tuple -/
def asSq (d : D) (S : Store) : Option (List D) := match d with
  | .tup xs => some xs
  | .fls is => some (is.map .int)
  | d => asL d S
def bits (i : Int) : Nat := i.natAbs.log2 + 1
def mulOk (i j : Int) : Bool := decide (bits i + bits j ≤ 134217728)
def divOk (j : Int) : Bool := decide (j ≠ 0) && decide (j.natAbs.log2 < 9000)
def powOk (i j : Int) : Bool := decide (0 ≤ j) && (decide (j ≤ 1000000) && decide (i.natAbs < 2 ^ 64))
def oAdd : Op2 := fun a b S => match a, b with
  | .int i, .int j => .ok (.int (i + j)) S
  | .str x, .str y => if x.length + y.length ≤ sizeLine then .ok (.str (x ++ y)) S else .bad
  | .tup xs, .tup ys => if xs.length + ys.length ≤ sizeLine then .ok (.tup (xs ++ ys)) S else .bad
  | _, _ => .bad
def oSub : Op2 := fun a b S => match a, b with | .int i, .int j => .ok (.int (i - j)) S | _, _ => .bad
def oMul : Op2 := fun a b S => match a, b with | .int i, .int j => if mulOk i j then .ok (.int (i * j)) S else .bad | _, _ => .bad
def oFdiv : Op2 := fun a b S => match a, b with | .int i, .int j => if divOk j then .ok (.int (i.fdiv j)) S else .bad | _, _ => .bad
def oMod : Op2 := fun a b S => match a, b with | .int i, .int j => if j ≠ 0 then .ok (.int (i.fmod j)) S else .bad | _, _ => .bad
def oPow : Op2 := fun a b S => match a, b with | .int i, .int j => if powOk i j then .ok (.int (i ^ j.toNat)) S else .bad | _, _ => .bad
def oNeg : Op1 := fun a S => match a with | .int i => .ok (.int (-i)) S | _ => .bad
def oLt : Op2 := fun a b S => match a, b with | .int i, .int j => .ok (.bl (decide (i < j))) S | _, _ => .bad
def oLe : Op2 := fun a b S => match a, b with | .int i, .int j => .ok (.bl (decide (i ≤ j))) S | _, _ => .bad
def oGt : Op2 := fun a b S => match a, b with | .int i, .int j => .ok (.bl (decide (j < i))) S | _, _ => .bad
def oGe : Op2 := fun a b S => match a, b with | .int i, .int j => .ok (.bl (decide (j ≤ i))) S | _, _ => .bad
def isNon : D → Bool | .non => true | _ => false
/-- is None, is not None -/
def oIsN : Op1 := fun a S => .ok (.bl (isNon a)) S
def oNotN : Op1 := fun a S => .ok (.bl (!isNon a)) S

/-! ### == -/
def okS (x : Str) : Bool := x.cps.all (· < 0x110000)
mutual
def pureB : D → Bool
  | .tup xs => pureL xs | .lst xs => pureL xs | .ref _ => false | .exc _ _ => false | .fls _ => false | .dct _ _ => false | .non => true | .bl _ => true | .int _ => true | .str x => okS x
def pureL : List D → Bool
  | [] => true | x :: xs => pureB x && pureL xs
end
mutual
def depth : D → Nat
  | .tup xs => depthL xs + 1 | .lst xs => depthL xs + 1 | _ => 0
def depthL : List D → Nat
  | [] => 0 | x :: xs => max (depth x) (depthL xs)
end
def b2i (b : Bool) : Int := if b then 1 else 0
mutual
def eqB : D → D → Bool
  | .non, .non => true
  | .bl a, .bl b => a == b
  | .bl a, .int j => b2i a == j
  | .int i, .bl b => i == b2i b
  | .int i, .int j => i == j
  | .str x, .str y => x == y
  | .lst xs, .lst ys => eqL xs ys
  | .tup xs, .tup ys => eqL xs ys
  | _, _ => false
def eqL : List D → List D → Bool
  | [], [] => true
  | x :: xs, y :: ys => eqB x y && eqL xs ys
  | [], _ :: _ => false
  | _ :: _, [] => false
end
def fit (d : D) : Bool := pureB d && decide (depth d ≤ 60)
/-! ### what the refs hold -/
mutual
def mapR (g : Nat → Option D) : D → Option D
  | .tup xs => (mapRL g xs).map .tup
  | .lst xs => (mapRL g xs).map .lst
  | .ref n => g n
  | .exc c v => (mapR g v).map (.exc c)
  | .non => some .non | .bl b => some (.bl b) | .int i => some (.int i) | .str x => some (.str x) | .fls is => some (.fls is)
  | .dct ks vs => (mapRL g vs).map (.dct ks)
def mapRL (g : Nat → Option D) : List D → Option (List D)
  | [] => some []
  | x :: xs => (mapR g x).bind fun y => (mapRL g xs).map (y :: ·)
end
/-- the refs from m on are the lists that they hold -/
def resN (m : Nat) (S : Store) : Nat → Nat → Option D
  | 0, n => if n < m then some (.ref n) else none
  | f + 1, n => if n < m then some (.ref n) else match S[n]? with | some (.lst xs) => (mapRL (resN m S f) xs).map .lst | _ => none
def res (m : Nat) (S : Store) (d : D) : Option D := mapR (resN m S 9) d
mutual
/-- no refs at all -/
def noRef : D → Bool
  | .tup xs => noRefL xs | .lst xs => noRefL xs | .ref _ => false | .exc _ v => noRef v | .fls _ => true | .dct _ vs => noRefL vs | .non => true | .bl _ => true | .int _ => true | .str _ => true
def noRefL : List D → Bool
  | [] => true | x :: xs => noRef x && noRefL xs
end
mutual
theorem mapR_no {g : Nat → Option D} : ∀ {d : D}, noRef d = true → mapR g d = some d
  | .tup xs, h => by unfold mapR; rw [mapRL_no (by unfold noRef at h; exact h)]; rfl
  | .lst xs, h => by unfold mapR; rw [mapRL_no (by unfold noRef at h; exact h)]; rfl
  | .exc c v, h => by unfold mapR; rw [mapR_no (by unfold noRef at h; exact h)]; rfl
  | .ref n, h => by unfold noRef at h; cases h
  | .non, _ => by unfold mapR; rfl
  | .bl _, _ => by unfold mapR; rfl
  | .int _, _ => by unfold mapR; rfl
  | .str _, _ => by unfold mapR; rfl
  | .fls _, _ => by unfold mapR; rfl
  | .dct ks vs, h => by unfold mapR; rw [mapRL_no (by unfold noRef at h; exact h)]; rfl
theorem mapRL_no {g : Nat → Option D} : ∀ {ds : List D}, noRefL ds = true → mapRL g ds = some ds
  | [], _ => by unfold mapRL; rfl
  | x :: xs, h => by
    unfold noRefL at h
    rw [Bool.and_eq_true] at h
    unfold mapRL
    rw [mapR_no h.1, mapRL_no h.2]
    rfl
end
mutual
theorem noRef_pure : ∀ {d : D}, pureB d = true → noRef d = true
  | .tup xs, h => by unfold noRef; exact noRefL_pure (by unfold pureB at h; exact h)
  | .lst xs, h => by unfold noRef; exact noRefL_pure (by unfold pureB at h; exact h)
  | .exc c v, h => by unfold pureB at h; cases h
  | .ref n, h => by unfold pureB at h; cases h
  | .non, _ => by unfold noRef; rfl
  | .bl _, _ => by unfold noRef; rfl
  | .int _, _ => by unfold noRef; rfl
  | .str _, _ => by unfold noRef; rfl
  | .fls _, h => by unfold pureB at h; cases h
  | .dct _ _, h => by unfold pureB at h; cases h
theorem noRefL_pure : ∀ {ds : List D}, pureL ds = true → noRefL ds = true
  | [], _ => by unfold noRefL; rfl
  | x :: xs, h => by
    unfold pureL at h
    rw [Bool.and_eq_true] at h
    unfold noRefL
    rw [noRef_pure h.1, noRefL_pure h.2]
    rfl
end
theorem res_no {m : Nat} {S : Store} {d : D} (h : noRef d = true) : res m S d = some d := mapR_no h
/-- the store's old entries are as they were, or hold nothing new -/
def Old (S S' : Store) : Prop := ∀ n, n < S.length → S'[n]? = S[n]? ∨ ∃ xs, S'[n]? = some (.lst xs) ∧ mapRL (fun k => if k < S.length then some (.ref k) else none) xs = some xs
theorem Old.refl (S : Store) (T : Store) : Old S (S ++ T) := fun n h => .inl (List.getElem?_append_left h)
open Classical in
/-- what was laid into the store since S and is reached by the value alone is told as a value -/
noncomputable def tidy (S : Store) (r : R D) : R D := match r with
  | .ok d S' => if S'.length ≤ S.length then .ok d S' else (match res S.length S' d with | some d' => if Old S S' then .ok d' (S'.take S.length) else .ok d S' | none => .ok d S')
  | .err c d S' => if S'.length ≤ S.length then .err c d S' else (match res S.length S' d with | some d' => if Old S S' then .err c d' (S'.take S.length) else .err c d S' | none => .err c d S')
  | .bad => .bad
@[simp] theorem tidy_bad {S : Store} : tidy S .bad = .bad := rfl
theorem tidy_ok {S S' : Store} {d : D} (h : S'.length ≤ S.length) : tidy S (.ok d S') = .ok d S' := by simp only [tidy, if_pos h]
theorem tidy_err {S S' : Store} {c : Nat} {d : D} (h : S'.length ≤ S.length) : tidy S (.err c d S') = .err c d S' := by simp only [tidy, if_pos h]
@[simp] theorem tidy_ok0 {S : Store} {d : D} : tidy S (.ok d S) = .ok d S := tidy_ok (Nat.le_refl _)
@[simp] theorem tidy_err0 {S : Store} {c : Nat} {d : D} : tidy S (.err c d S) = .err c d S := tidy_err (Nat.le_refl _)
theorem tidy_app {S T : Store} {d d' : D} (h : res S.length (S ++ T) d = some d') : tidy S (.ok d (S ++ T)) = .ok d' S ∨ (T = [] ∧ tidy S (.ok d (S ++ T)) = .ok d S) := by
  by_cases hT : (S ++ T).length ≤ S.length
  · have : T = [] := by
      rw [List.length_append] at hT
      exact List.eq_nil_of_length_eq_zero (by omega)
    subst this
    rw [List.append_nil]
    exact .inr ⟨rfl, tidy_ok0⟩
  · unfold tidy
    simp only [if_neg hT, h, if_pos (Old.refl S T)]
    rw [List.take_left]
    exact .inl rfl
theorem tidy_no {S T : Store} {d : D} (h : noRef d = true) : tidy S (.ok d (S ++ T)) = .ok d S := by
  rcases tidy_app (S := S) (T := T) (res_no h) with z | ⟨_, z⟩ <;> exact z
theorem tidy_noErr {S T : Store} {c : Nat} {d : D} (h : noRef d = true) : tidy S (.err c d (S ++ T)) = .err c d S := by
  by_cases hT : (S ++ T).length ≤ S.length
  · have : T = [] := by
      rw [List.length_append] at hT
      exact List.eq_nil_of_length_eq_zero (by omega)
    subst this
    rw [List.append_nil]
    exact tidy_err0
  · unfold tidy
    simp only [if_neg hT, res_no h, if_pos (Old.refl S T)]
    rw [List.take_left]
/-- all that it reaches in the store -/
def look (d : D) (S : Store) : Option D := res 0 S d
theorem look_no {S : Store} {d : D} (h : noRef d = true) : look d S = some d := res_no h
def oEq : Op2 := fun a b S => match look a S, look b S with
  | some x, some y => if fit x && fit y then .ok (.bl (eqB x y)) S else .bad
  | _, _ => .bad
def oNe : Op2 := fun a b S => match look a S, look b S with
  | some x, some y => if fit x && fit y then .ok (.bl (!eqB x y)) S else .bad
  | _, _ => .bad

/-! ### tests -/
def tVal (f : Den) : DenT := fun e S => (f e S).bind fun a S1 => match a with | .bl b => .ok b S1 | _ => .bad
def tNot (t : DenT) : DenT := fun e S => (t e S).bind fun b S1 => .ok (!b) S1
def tAnd (t u : DenT) : DenT := fun e S => (t e S).bind fun b S1 => if b then u e S1 else .ok false S1
def tOr (t u : DenT) : DenT := fun e S => (t e S).bind fun b S1 => if b then .ok true S1 else u e S1
/-- and, or, not as values: all but the last True or False -/
def eAnd (f g : Den) : Den := fun e S => (f e S).bind fun a S1 => match a with | .bl true => g e S1 | .bl false => .ok (.bl false) S1 | _ => .bad
def eOr (f g : Den) : Den := fun e S => (f e S).bind fun a S1 => match a with | .bl true => .ok (.bl true) S1 | .bl false => g e S1 | _ => .bad
def eNot (f : Den) : Den := fun e S => (f e S).bind fun a S1 => match a with | .bl b => .ok (.bl (!b)) S1 | _ => .bad

/-! ### statements -/
def sPass : DenS := fun e S => .next e S
def sSeq (a b : DenS) : DenS := fun e S => match a e S with | .next e1 S1 => b e1 S1 | r => r
def sExpr (f : Den) : DenS := fun e S => match f e S with | .ok _ S1 => .next e S1 | .err c v S1 => .err c v e S1 | .bad => .bad
def sSet (i : Nat) (f : Den) : DenS := fun e S => match f e S with | .ok d S1 => .next (e.set i (some d)) S1 | .err c v S1 => .err c v e S1 | .bad => .bad
def sRet (f : Den) : DenS := fun e S => match f e S with | .ok d S1 => .ret d S1 | .err c v S1 => .err c v e S1 | .bad => .bad
def sRetN : DenS := fun _ S => .ret .non S
def sIf (t : DenT) (a b : DenS) : DenS := fun e S => match t e S with | .ok c S1 => if c then a e S1 else b e S1 | .err c v S1 => .err c v e S1 | .bad => .bad
def sBrk : DenS := fun e S => .brk e S
def sCont : DenS := fun e S => .cont e S
/-- raise C(e) -/
def sRaise (c : Nat) (f : Den) : DenS := fun e S => match f e S with | .ok d S1 => .err c d e S1 | .err c v S1 => .err c v e S1 | .bad => .bad

/-! ### targets -/
/-- a target: a value's place in the slots -/
abbrev Tgt := D → Env → Store → Option Env
def gNm (i : Nat) : Tgt := fun d e _ => some (e.set i (some d))
def gTs : List Nat → List D → Env → Option Env
  | [], [], e => some e
  | i :: is, d :: ds, e => gTs is ds (e.set i (some d))
  | _, _, _ => none

/-! ### loops -/
def forL (g : Tgt) (b : DenS) : List D → DenS
  | [] => fun e S => .next e S
  | x :: xs => fun e S => match g x e S with
    | none => .bad
    | some e1 => (match b e1 S with
      | .next e2 S2 => forL g b xs e2 S2
      | .cont e2 S2 => forL g b xs e2 S2
      | .brk e2 S2 => .next e2 S2
      | .ret d S2 => .ret d S2
      | .err c v e2 S2 => .err c v e2 S2
      | .bad => .bad)
/-- what a loop walks: its i-th item as the store then is (none: it ends) -/
abbrev Walk := Nat → Store → Option (Option D)
def wkL (xs : List D) : Walk := fun i _ => some xs[i]?
def wkR (n : Nat) : Walk := fun i S => match S[n]? with | some (.lst xs) => some xs[i]? | _ => none
def wkE (w : Walk) : Walk := fun i S => (w i S).map fun o => o.map fun d => .tup [.int i, d]
def wkZ (a b : Walk) : Walk := fun i S => match a i S, b i S with
  | some (some x), some (some y) => some (some (.tup [x, y]))
  | some none, some _ => some none
  | some (some _), some none => some none
  | _, _ => none
theorem wkE_L (xs : List D) : wkE (wkL xs) = wkL (xs.mapIdx fun i d => .tup [.int i, d]) := by
  funext i S
  simp [wkE, wkL]
theorem wkZ_L (xs ys : List D) : wkZ (wkL xs) (wkL ys) = wkL (List.zipWith (fun x y => .tup [x, y]) xs ys) := by
  funext i S
  simp only [wkZ, wkL, List.getElem?_zipWith]
  cases xs[i]? <;> cases ys[i]? <;> rfl
abbrev DenI := Env → Store → R (Walk × Nat)
def forW (g : Tgt) (b : DenS) (w : Walk) : Nat → Nat → DenS
  | 0, i => fun e S => match w i S with | some none => .next e S | _ => .bad
  | f + 1, i => fun e S => match w i S with
    | none => .bad
    | some none => .next e S
    | some (some x) => (match g x e S with
      | none => .bad
      | some e1 => (match b e1 S with
        | .next e2 S2 => forW g b w f (i + 1) e2 S2
        | .cont e2 S2 => forW g b w f (i + 1) e2 S2
        | .brk e2 S2 => .next e2 S2
        | .ret d S2 => .ret d S2
        | .err c v e2 S2 => .err c v e2 S2
        | .bad => .bad))
def sFor (g : Tgt) (i : DenI) (b : DenS) : DenS := fun e S => match i e S with
  | .ok w S1 => forW g b w.1 w.2 0 e S1
  | .err c v S1 => .err c v e S1
  | .bad => .bad
theorem forW_L (g : Tgt) (b : DenS) (xs : List D) : ∀ (f i : Nat) (e : Env) (S : Store), i + f = xs.length → forW g b (wkL xs) f i e S = forL g b (xs.drop i) e S
  | 0, i, e, S, h => by
    have hi : xs.length ≤ i := by omega
    unfold forW
    rw [List.drop_eq_nil_of_le hi]
    simp [wkL, List.getElem?_eq_none hi, forL]
  | f + 1, i, e, S, h => by
    have hi : i < xs.length := by omega
    unfold forW
    rw [List.drop_eq_getElem_cons hi]
    simp only [wkL, List.getElem?_eq_getElem hi]
    unfold forL
    cases g xs[i] e S with
    | none => rfl
    | some e1 =>
      dsimp only
      cases b e1 S with
      | next e2 S2 => exact forW_L g b xs f (i + 1) e2 S2 (by omega)
      | cont e2 S2 => exact forW_L g b xs f (i + 1) e2 S2 (by omega)
      | _ => rfl
theorem forW_all (g : Tgt) (b : DenS) (xs : List D) (e : Env) (S : Store) : forW g b (wkL xs) xs.length 0 e S = forL g b xs e S := by
  rw [forW_L g b xs xs.length 0 e S (by omega), List.drop_zero]
theorem sFor_L {g : Tgt} {gi : DenI} {b : DenS} {e : Env} {S S1 : Store} {xs : List D} (h : gi e S = .ok (wkL xs, xs.length) S1) : sFor g gi b e S = forL g b xs e S1 := by
  unfold sFor
  rw [h]
  exact forW_all g b xs e S1
/-- a list that the body leaves as it is -/
theorem forW_R (g : Tgt) (b : DenS) (n : Nat) (xs : List D) (hb : ∀ (e : Env) (S : Store) (e' : Env) (S' : Store), S[n]? = some (.lst xs) → (b e S = .next e' S' ∨ b e S = .cont e' S') → S'[n]? = some (.lst xs)) :
    ∀ (f i : Nat) (e : Env) (S : Store), S[n]? = some (.lst xs) → i + f = xs.length → forW g b (wkR n) f i e S = forL g b (xs.drop i) e S
  | 0, i, e, S, hS, h => by
    have hi : xs.length ≤ i := by omega
    unfold forW
    rw [List.drop_eq_nil_of_le hi]
    simp [wkR, hS, List.getElem?_eq_none hi, forL]
  | f + 1, i, e, S, hS, h => by
    have hi : i < xs.length := by omega
    unfold forW
    rw [List.drop_eq_getElem_cons hi]
    simp only [wkR, hS, List.getElem?_eq_getElem hi]
    unfold forL
    cases g xs[i] e S with
    | none => rfl
    | some e1 =>
      dsimp only
      cases q : b e1 S with
      | next e2 S2 => exact forW_R g b n xs hb f (i + 1) e2 S2 (hb _ _ _ _ hS (.inl q)) (by omega)
      | cont e2 S2 => exact forW_R g b n xs hb f (i + 1) e2 S2 (hb _ _ _ _ hS (.inr q)) (by omega)
      | _ => rfl
/-- a list, a tuple: as a walk -/
def dSeq (f : Den) : DenI := fun e S => (f e S).bind fun d S1 => match d with
  | .tup xs => .ok (wkL xs, xs.length) S1
  | .lst xs => .ok (wkL xs, xs.length) S1
  | .fls is => .ok (wkL (is.map .int), is.length) S1
  | .ref n => (match S1[n]? with | some (.lst xs) => .ok (wkR n, xs.length) S1 | _ => .bad)
  | _ => .bad
def intsD (lo : Int) (n : Nat) : List D := (List.range n).map fun (k : Nat) => .int (lo + (k : Int))
theorem intsD_length (lo : Int) (n : Nat) : (intsD lo n).length = n := by simp [intsD]
theorem intsD_get (lo : Int) (n i : Nat) (h : i < n) : (intsD lo n)[i]? = some (.int (lo + (i : Int))) := by simp [intsD, h]
def inR (j : Int) : Bool := decide (-(2 ^ 62) ≤ j) && decide (j < 2 ^ 62)
theorem inR_ok {j : Int} (h : inR j = true) : -(2 ^ 62) ≤ j ∧ j < 2 ^ 62 := by
  unfold inR at h
  rw [Bool.and_eq_true] at h
  exact ⟨of_decide_eq_true h.1, of_decide_eq_true h.2⟩
def dRng1 (f : Den) : DenI := fun e S => (f e S).bind fun d S1 => match d with | .int j => if inR j then .ok (wkL (intsD 0 j.toNat), (intsD 0 j.toNat).length) S1 else .bad | _ => .bad
def dRng2 (f g : Den) : DenI := fun e S => (f e S).bind fun d S1 => (g e S1).bind fun d2 S2 => match d, d2 with | .int i, .int j => if inR i && inR j then .ok (wkL (intsD i (j - i).toNat), (intsD i (j - i).toNat).length) S2 else .bad | _, _ => .bad
/-- enumerate -/
def dEnum (g : DenI) : DenI := fun e S => (g e S).bind fun w S1 => .ok (wkE w.1, w.2) S1
/-- zip of two -/
def dZip (g h : DenI) : DenI := fun e S => (g e S).bind fun w S1 => (h e S1).bind fun v S2 => .ok (wkZ w.1 v.1, min w.2 v.2) S2

/-! ### comprehensions -/
def wipeE (e : Env) : List Nat → Env
  | [] => e
  | v :: vs => (wipeE e vs).set v none
/-- the list lies at n while it grows -/
def lcW (g : Tgt) (t : DenT) (f : Den) (w : Walk) (e0 : Env) (n : Nat) : Nat → Nat → Store → R Unit
  | 0, i, S => match w i S with | some none => .ok () S | _ => .bad
  | k + 1, i, S => match w i S with
    | none => .bad
    | some none => .ok () S
    | some (some x) => (match g x e0 S with
      | none => .bad
      | some e1 => (match t e1 S with
        | .ok true S1 => (match f e1 S1 with
          | .ok d S2 => (match S2[n]? with
            | some (.lst acc) => if acc.length < sizeLine then lcW g t f w e0 n k (i + 1) (S2.set n (.lst (acc ++ [d]))) else .bad
            | _ => .bad)
          | _ => .bad)
        | .ok false S1 => lcW g t f w e0 n k (i + 1) S1
        | _ => .bad))
/-- .. as a list that will be changed -/
def eLcN (vs : List Nat) (gi : DenI) (g : Tgt) (t : DenT) (f : Den) : Den := fun e S => (gi e S).bind fun w S1 => (lcW g t f w.1 (wipeE e vs) S1.length w.2 0 (S1 ++ [.lst []])).bind fun _ S2 => .ok (.ref S1.length) S2
/-- .. as a value -/
noncomputable def eLc (vs : List Nat) (gi : DenI) (g : Tgt) (t : DenT) (f : Den) : Den := fun e S => (gi e S).bind fun w S1 =>
  tidy S1 ((lcW g t f w.1 (wipeE e vs) S1.length w.2 0 (S1 ++ [.lst []])).bind fun _ S2 => .ok (.ref S1.length) S2)
def tYesD : DenT := fun _ S => .ok true S
def whileN (t : DenT) (b : DenS) : Nat → DenS
  | 0 => fun _ _ => .bad
  | n + 1 => fun e S => match t e S with
    | .ok true S1 => (match b e S1 with
      | .next e2 S2 => whileN t b n e2 S2
      | .cont e2 S2 => whileN t b n e2 S2
      | .brk e2 S2 => .next e2 S2
      | .ret d S2 => .ret d S2
      | .err c v e2 S2 => .err c v e2 S2
      | .bad => .bad)
    | .ok false S1 => .next e S1
    | .err c v S1 => .err c v e S1
    | .bad => .bad
open Classical in
noncomputable def sWhile (t : DenT) (b : DenS) : DenS := fun e S => if h : ∃ n, whileN t b n e S ≠ .bad then whileN t b h.choose e S else .bad
theorem whileN_mono {t : DenT} {b : DenS} : ∀ {n : Nat} {e : Env} {S : Store}, whileN t b n e S ≠ .bad → ∀ m, n ≤ m → whileN t b m e S = whileN t b n e S
  | 0, e, S, h, _, _ => absurd rfl h
  | n + 1, e, S, h, 0, hm => absurd hm (Nat.not_succ_le_zero n)
  | n + 1, e, S, h, m + 1, hm => by
    unfold whileN at h ⊢
    cases ht : t e S with
    | bad => rfl
    | err c v S1 => rfl
    | ok c S1 =>
      rw [ht] at h
      cases c with
      | false => rfl
      | true =>
        simp only at h ⊢
        cases hb : b e S1 with
        | next e2 S2 =>
          rw [hb] at h
          exact whileN_mono h m (Nat.le_of_succ_le_succ hm)
        | cont e2 S2 =>
          rw [hb] at h
          exact whileN_mono h m (Nat.le_of_succ_le_succ hm)
        | _ => rfl
theorem sWhile_of {t : DenT} {b : DenS} {n : Nat} {e : Env} {S : Store} (h : whileN t b n e S ≠ .bad) : sWhile t b e S = whileN t b n e S := by
  unfold sWhile
  have hx : ∃ n, whileN t b n e S ≠ .bad := ⟨n, h⟩
  rw [dif_pos hx]
  have hc := hx.choose_spec
  rcases Nat.le_total n hx.choose with l | l
  · exact whileN_mono h _ l
  · exact (whileN_mono hc _ l).symm
theorem sWhile_some {t : DenT} {b : DenS} {e : Env} {S : Store} (h : sWhile t b e S ≠ .bad) : ∃ n, whileN t b n e S = sWhile t b e S := by
  unfold sWhile at h ⊢
  by_cases hx : ∃ n, whileN t b n e S ≠ .bad
  · rw [dif_pos hx]
    exact ⟨_, rfl⟩
  · rw [dif_neg hx] at h
    exact absurd rfl h
/-- one turn -/
theorem sWhile_eq (t : DenT) (b : DenS) (e : Env) (S : Store) : sWhile t b e S = (match t e S with
    | .ok true S1 => (match b e S1 with
      | .next e2 S2 => sWhile t b e2 S2
      | .cont e2 S2 => sWhile t b e2 S2
      | .brk e2 S2 => .next e2 S2
      | .ret d S2 => .ret d S2
      | .err c v e2 S2 => .err c v e2 S2
      | .bad => .bad)
    | .ok false S1 => .next e S1
    | .err c v S1 => .err c v e S1
    | .bad => .bad) := by
  have up : ∀ {e2 : Env} {S2 : Store} {S1 : Store}, t e S = .ok true S1 → (b e S1 = .next e2 S2 ∨ b e S1 = .cont e2 S2) → sWhile t b e S = sWhile t b e2 S2 := by
    intro e2 S2 S1 ht hb
    have one : ∀ n, whileN t b (n + 1) e S = whileN t b n e2 S2 := fun n => by
      rcases hb with hb | hb <;> (conv => lhs; unfold whileN) <;> rw [ht] <;> simp only [hb]
    by_cases hx : ∃ n, whileN t b n e2 S2 ≠ .bad
    · obtain ⟨n, hn⟩ := hx
      rw [sWhile_of hn, sWhile_of (n := n + 1) (by rw [one]; exact hn), one]
    · have h1 : ¬ ∃ n, whileN t b n e S ≠ .bad := fun ⟨n, hn⟩ => by
        cases n with
        | zero => exact hn rfl
        | succ n => exact hx ⟨n, by rw [← one]; exact hn⟩
      unfold sWhile
      rw [dif_neg hx, dif_neg h1]
  have same : ∀ r : RS, whileN t b 1 e S = r → r ≠ .bad → sWhile t b e S = r := fun r h hr => by
    rw [sWhile_of (n := 1) (by rw [h]; exact hr), h]
  have badc : (∀ n, whileN t b n e S = .bad) → sWhile t b e S = .bad := fun h => by
    unfold sWhile
    rw [dif_neg fun ⟨n, hn⟩ => hn (h n)]
  cases ht : t e S with
  | bad => exact badc fun n => by cases n with
    | zero => rfl
    | succ n => unfold whileN; rw [ht]
  | err c v S1 => exact same _ (by unfold whileN; rw [ht]) (by simp)
  | ok c S1 =>
    cases c with
    | false => exact same _ (by unfold whileN; rw [ht]) (by simp)
    | true =>
      simp only
      cases hb : b e S1 with
      | next e2 S2 => exact up ht (.inl hb)
      | cont e2 S2 => exact up ht (.inr hb)
      | brk e2 S2 => exact same _ (by unfold whileN; rw [ht]; simp only [hb]) (by simp)
      | ret d S2 => exact same _ (by unfold whileN; rw [ht]; simp only [hb]) (by simp)
      | err c v e2 S2 => exact same _ (by unfold whileN; rw [ht]; simp only [hb]) (by simp)
      | bad => exact badc fun n => by cases n with
        | zero => rfl
        | succ n => unfold whileN; rw [ht]; simp only [hb]

/-! ### a def -/
def runBody (F : DenS) (n : Nat) (args : List D) (S : Store) : R D :=
  match F (args.map some ++ List.replicate (n - args.length) none) S with
  | .next _ S1 => .ok .non S1
  | .ret d S1 => .ok d S1
  | .err c v _ S1 => .err c v S1
  | _ => .bad
/-- .. that gives no list of its own to be changed -/
noncomputable def runTidy (F : DenS) (n : Nat) (args : List D) (S : Store) : R D := tidy S (runBody F n args S)
end Py

set_option maxHeartbeats 4000000
/-! PyB: how plain data stand for what lies in the heap of the hand layer; the readings of expressions. -/
namespace Py
open PySem PySem.Spec PyProof.Rows L2
abbrev St := L2.St

/-- an exception that was caught: at a, of the class at C, its own dict at d -/
def exk (a C d : Addr) : HO := .ext fun h => ∃ oe vs, h.get? a = some oe ∧ oe.cls = .ref C ∧ oe.dict = some d ∧ oe.data = .fields vs
/-- where things stand: the abstract heap, the addresses of the store's objects, the store -/
structure Wd where
  H : Hp
  ρ : Nat → Addr
  S : Store
/-- what may be changed -/
def Wd.M (w : Wd) (a : Addr) : Prop := ∃ n xs, w.S[n]? = some (.lst xs) ∧ w.ρ n = a
section
variable (K : PySem.W.Frag) (ca : Nat → Addr)
mutual
inductive Rep : Wd → V → D → Prop where
  | non {w : Wd} : Rep w .non .non
  | bl {w : Wd} (b : Bool) : Rep w (.bl b) (.bl b)
  | int {w : Wd} (i : Int) : Rep w (.int i) (.int i)
  | str {w : Wd} (x : Str) : Rep w (.str x) (.str x)
  | tup {w : Wd} {a : Addr} {vs : List V} {ds : List D} : SqT K w.H a vs → RepL w vs ds → Rep w (.ref a) (.tup ds)
  | lst {w : Wd} {a : Addr} {vs : List V} {ds : List D} : w.H a = some (.lst vs) → ¬ w.M a → RepL w vs ds → Rep w (.ref a) (.lst ds)
  | dct {w : Wd} {a : Addr} {ks : List (Sum Int Str)} {us : List V} {ds : List D} : w.H a = some (.dK (ks.zip us)) → ¬ w.M a → ks.length = us.length → RepL w us ds → Rep w (.ref a) (.dct ks ds)
  | ref {w : Wd} {n : Nat} : n < w.S.length → Rep w (.ref (w.ρ n)) (.ref n)
  | fls {w : Wd} {a : Addr} {is : List Int} : ((∃ o, w.H a = some (.frz o (.lst (is.map V.int)))) ∨ ∃ (o : Obj) (its : Array Value) (n : Nat), K.lookup a = some o ∧ o.cls = .type "list" ∧ o.dict = none ∧ o.data = .seq its n ∧ its.size ≤ sizeLine ∧ Vals (is.map V.int) its.toList) → Rep w (.ref a) (.fls is)
  | exc {w : Wd} {a d : Addr} {c : Nat} {v : V} {x : D} : w.H a = some (exk a (ca c) d) → w.H d = some (.xd [("value", v)]) → ¬ w.M a → ¬ w.M d → Rep w v x → Rep w (.ref a) (.exc c x)
inductive RepL : Wd → List V → List D → Prop where
  | nil {w : Wd} : RepL w [] []
  | cons {w : Wd} {v : V} {d : D} {vs : List V} {ds : List D} : Rep w v d → RepL w vs ds → RepL w (v :: vs) (d :: ds)
end
/-- the store's objects are as the heap has them -/
structure SOk (w : Wd) : Prop where
  live : ∀ n xs, w.S[n]? = some (.lst xs) → ∃ vs, w.H (w.ρ n) = some (.lst vs) ∧ RepL K ca w vs xs
  inj : ∀ n m xs ys, w.S[n]? = some (.lst xs) → w.S[m]? = some (.lst ys) → w.ρ n = w.ρ m → n = m
end
/-- later -/
structure Ext (w w' : Wd) : Prop where
  keep : ∀ a o, w.H a = some o → ¬ w.M a → w'.H a = some o
  fresh : ∀ a, w'.M a → w.M a ∨ w.H a = none
  rho : ∀ n, n < w.S.length → w'.ρ n = w.ρ n
  len : w.S.length ≤ w'.S.length
theorem Ext.refl (w : Wd) : Ext w w := ⟨fun _ _ h _ => h, fun _ h => .inl h, fun _ _ => rfl, Nat.le_refl _⟩
theorem Ext.notM {w w' : Wd} (e : Ext w w') {a : Addr} {o : HO} (h : w.H a = some o) (n : ¬ w.M a) : ¬ w'.M a := fun m => by
  rcases e.fresh a m with z | z
  · exact n z
  · rw [h] at z; cases z
theorem Ext.trans {w w1 w2 : Wd} (a : Ext w w1) (b : Ext w1 w2) : Ext w w2 where
  keep := fun c o h n => b.keep c o (a.keep c o h n) (a.notM h n)
  fresh := fun c m => by
    by_cases hm : w.M c
    · exact .inl hm
    · cases q : w.H c with
      | none => exact .inr rfl
      | some o => exact absurd m (b.notM (a.keep c o q hm) (a.notM q hm))
  rho := fun n h => (b.rho n (Nat.lt_of_lt_of_le h a.len)).trans (a.rho n h)
  len := Nat.le_trans a.len b.len
section
variable {K : PySem.W.Frag} {ca : Nat → Addr} {w w' : Wd}
theorem SOk.lstM (s : SOk K ca w) {a : Addr} (m : w.M a) : ∃ vs, w.H a = some (.lst vs) := by
  obtain ⟨n, xs, h, e⟩ := m
  obtain ⟨vs, q, _⟩ := s.live n xs h
  exact ⟨vs, by rw [← e]; exact q⟩
theorem SOk.notM (s : SOk K ca w) {a : Addr} {o : HO} (h : w.H a = some o) (n : ∀ vs, o ≠ .lst vs) : ¬ w.M a := fun m => by
  obtain ⟨vs, q⟩ := s.lstM m
  rw [h] at q; cases q
  exact n vs rfl
theorem SOk.notM0 (s : SOk K ca w) {a : Addr} (h : w.H a = none) : ¬ w.M a := fun m => by
  obtain ⟨vs, q⟩ := s.lstM m
  rw [h] at q; cases q
theorem Ext.sqT (e : Ext w w') (s : SOk K ca w) {a : Addr} {vs : List V} (h : SqT K w.H a vs) : SqT K w'.H a vs := by
  rcases h with (h | ⟨o, h⟩) | h
  · exact .inl (.inl (e.keep _ _ h (s.notM h fun _ z => by cases z)))
  · exact .inl (.inr ⟨o, e.keep _ _ h (s.notM h fun _ z => by cases z)⟩)
  · exact .inr h
mutual
theorem Rep.mono (e : Ext w w') (s : SOk K ca w) : ∀ {v : V} {d : D}, Rep K ca w v d → Rep K ca w' v d
  | _, _, .non => .non
  | _, _, .bl b => .bl b
  | _, _, .int i => .int i
  | _, _, .str x => .str x
  | _, _, .tup h r => .tup (e.sqT s h) (RepL.mono e s r)
  | _, _, .lst h n r => .lst (e.keep _ _ h n) (e.notM h n) (RepL.mono e s r)
  | _, _, .ref (n := n) h => by
    have q : Rep K ca w' (.ref (w'.ρ n)) (.ref n) := .ref (Nat.lt_of_lt_of_le h e.len)
    rw [e.rho n h] at q
    exact q
  | _, _, .dct h n l r => .dct (e.keep _ _ h n) (e.notM h n) l (RepL.mono e s r)
  | _, _, .fls h => .fls (h.elim (fun ⟨o, q⟩ => .inl ⟨o, e.keep _ _ q (s.notM q fun _ z => by cases z)⟩) .inr)
  | _, _, .exc h1 h2 n1 n2 r => .exc (e.keep _ _ h1 n1) (e.keep _ _ h2 n2) (e.notM h1 n1) (e.notM h2 n2) (Rep.mono e s r)
theorem RepL.mono (e : Ext w w') (s : SOk K ca w) : ∀ {vs : List V} {ds : List D}, RepL K ca w vs ds → RepL K ca w' vs ds
  | _, _, .nil => .nil
  | _, _, .cons r t => .cons (Rep.mono e s r) (RepL.mono e s t)
end
theorem RepL.length : ∀ {vs : List V} {ds : List D}, RepL K ca w vs ds → vs.length = ds.length
  | _, _, .nil => rfl
  | _, _, .cons _ t => congrArg (· + 1) t.length
theorem RepL.get : ∀ {vs : List V} {ds : List D} {i : Nat} {d : D}, RepL K ca w vs ds → ds[i]? = some d → ∃ v, vs[i]? = some v ∧ Rep K ca w v d
  | _, _, _, _, .nil, h => by cases h
  | _, _, 0, _, .cons r _, h => by
    have e := Option.some.inj h
    subst e
    exact ⟨_, rfl, r⟩
  | _, _, i + 1, _, .cons _ t, h => RepL.get (i := i) t h
theorem RepL.getV : ∀ {vs : List V} {ds : List D} {i : Nat} {v : V}, RepL K ca w vs ds → vs[i]? = some v → ∃ d, ds[i]? = some d ∧ Rep K ca w v d
  | _, _, _, _, .nil, h => by cases h
  | _, _, 0, _, .cons r _, h => by
    have e := Option.some.inj h
    subst e
    exact ⟨_, rfl, r⟩
  | _, _, i + 1, _, .cons _ t, h => RepL.getV (i := i) t h
theorem RepL.append : ∀ {vs us : List V} {ds es : List D}, RepL K ca w vs ds → RepL K ca w us es → RepL K ca w (vs ++ us) (ds ++ es)
  | _, _, _, _, .nil, s => s
  | _, _, _, _, .cons r t, s => .cons r (RepL.append t s)
theorem RepL.take : ∀ {vs : List V} {ds : List D} (n : Nat), RepL K ca w vs ds → RepL K ca w (vs.take n) (ds.take n)
  | _, _, 0, _ => .nil
  | _, _, _ + 1, .nil => .nil
  | _, _, n + 1, .cons r t => .cons r (RepL.take n t)
theorem RepL.drop : ∀ {vs : List V} {ds : List D} (n : Nat), RepL K ca w vs ds → RepL K ca w (vs.drop n) (ds.drop n)
  | _, _, 0, r => r
  | _, _, _ + 1, .nil => .nil
  | _, _, n + 1, .cons _ t => RepL.drop n t
theorem RepL.set : ∀ {vs : List V} {ds : List D} {v : V} {d : D} (i : Nat), RepL K ca w vs ds → Rep K ca w v d → RepL K ca w (vs.set i v) (ds.set i d)
  | _, _, _, _, _, .nil, _ => .nil
  | _, _, _, _, 0, .cons _ t, q => .cons q t
  | _, _, _, _, i + 1, .cons r t, q => .cons r (RepL.set i t q)
theorem RepL.one {v : V} {ds : List D} (h : RepL K ca w [v] ds) : ∃ d, ds = [d] ∧ Rep K ca w v d := by
  cases h with
  | cons r t => cases t; exact ⟨_, rfl, r⟩
theorem RepL.of1 {vs : List V} {d : D} (h : RepL K ca w vs [d]) : ∃ v, vs = [v] ∧ Rep K ca w v d := by
  cases h with
  | cons r t => cases t; exact ⟨_, rfl, r⟩
theorem RepL.of2 {vs : List V} {d e : D} (h : RepL K ca w vs [d, e]) : ∃ v u, vs = [v, u] ∧ Rep K ca w v d ∧ Rep K ca w u e := by
  cases h with
  | cons r t =>
    obtain ⟨u, rfl, q⟩ := t.of1
    exact ⟨_, _, rfl, r, q⟩
end

/-- how a reading ends -/
def Sat {α : Type} (r : R α) (Q : α → Store → Prop) (E : Nat → D → Store → Prop) : Prop := match r with
  | .ok a S => Q a S | .err c v S => E c v S | .bad => False
theorem Sat.bind {α β : Type} {r : R α} {f : α → Store → R β} {Q : β → Store → Prop} {E : Nat → D → Store → Prop} (h : Sat (r.bind f) Q E) : Sat r (fun a S => Sat (f a S) Q E) E := by
  cases r <;> exact h
theorem Sat.mono {α : Type} {r : R α} {Q Q' : α → Store → Prop} {E E' : Nat → D → Store → Prop} (h : Sat r Q E) (hq : ∀ a S, Q a S → Q' a S) (he : ∀ c v S, E c v S → E' c v S) : Sat r Q' E' := by
  cases r with
  | ok a S => exact hq a S h
  | err c v S => exact he c v S h
  | bad => exact h

section
variable (K : PySem.W.Frag) (ca : Nat → Addr)
/-- whatever comes behind w with the store S -/
def Aft (w : Wd) (S : Store) (P : Wd → Prop) : Prop := ∀ w' : Wd, w'.S = S → Ext w w' → SOk K ca w' → P w'
/-- an exception of the class number c that holds x -/
def ExIn (w : Wd) (cls : Value) (dd : Option Addr) (c : Nat) (x : D) : Prop := cls = .ref (ca c) ∧ ∃ d v, dd = some d ∧ w.H d = some (.xd [("value", v)]) ∧ ¬ w.M d ∧ Rep K ca w v x
/-- the slots -/
def Sim (w : Wd) (env : Env) (σ : St) : Prop := env.length = σ.length ∧ ∀ (i : Nat) (d : D), env[i]? = some (some d) → ∃ v : V, σ[i]? = some (some v) ∧ Rep K ca w v d
def QV (w : Wd) (Q : VK) : D → Store → Prop := fun d S => Aft K ca w S fun w' => ∀ v, Rep K ca w' v d → Q v w'.H
def QL (w : Wd) (Q : List V → Hp → Prop) : List D → Store → Prop := fun ds S => Aft K ca w S fun w' => ∀ vs, RepL K ca w' vs ds → Q vs w'.H
def QB (w : Wd) (Q : Bool → Hp → Prop) : Bool → Store → Prop := fun b S => Aft K ca w S fun w' => Q b w'.H
def QE (w : Wd) (W : WX) (σ : St) : Nat → D → Store → Prop := fun c x S => Aft K ca w S fun w' => ∀ cls dd, ExIn K ca w' cls dd c x → W cls dd σ w'.H
def tE (W : WX) (f : Den) : TE := fun σ H Q => ∃ w env, w.H = H ∧ SOk K ca w ∧ Sim K ca w env σ ∧ Sat (f env w.S) (QV K ca w Q) (QE K ca w W σ)
def tEs (W : WX) (f : Dens) : TA := fun σ H Q => ∃ w env, w.H = H ∧ SOk K ca w ∧ Sim K ca w env σ ∧ Sat (f env w.S) (QL K ca w Q) (QE K ca w W σ)
def tT (W : WX) (f : DenT) : TT := fun σ H Q => ∃ w env, w.H = H ∧ SOk K ca w ∧ Sim K ca w env σ ∧ Sat (f env w.S) (QB K ca w Q) (QE K ca w W σ)
/-- a new list at any free place -/
def QF (w : Wd) (Q : VK) : List D → Store → Prop := fun ds S => Aft K ca w S fun w' => ∀ vs p, RepL K ca w' vs ds → w'.H p = none → Q (.ref p) (upd w'.H p (.lst vs))
def tF (W : WX) (f : Dens) : TE := fun σ H Q => ∃ w env, w.H = H ∧ SOk K ca w ∧ Sim K ca w env σ ∧ Sat (f env w.S) (QF K ca w Q) (QE K ca w W σ)
end
section
variable {K : PySem.W.Frag} {ca : Nat → Addr} {w w' : Wd} {S : Store} {P P' : Wd → Prop}
theorem Aft.here (h : Aft K ca w w'.S P) (e : Ext w w') (s : SOk K ca w') : P w' := h w' rfl e s
theorem Aft.later (h : Aft K ca w S P) (e : Ext w w') : Aft K ca w' S P := fun w2 hs e2 s2 => h w2 hs (e.trans e2) s2
theorem Aft.mono (h : Aft K ca w S P) (f : ∀ w', Ext w w' → SOk K ca w' → P w' → P' w') : Aft K ca w S P' := fun w2 hs e2 s2 => f w2 e2 s2 (h w2 hs e2 s2)
theorem Sim.mono {env : Env} {σ : St} (e : Ext w w') (s : SOk K ca w) (h : Sim K ca w env σ) : Sim K ca w' env σ :=
  ⟨h.1, fun i d q => let ⟨v, a, r⟩ := h.2 i d q; ⟨v, a, r.mono e s⟩⟩
theorem Sim.set {env : Env} {σ : St} {v : V} {d : D} (h : Sim K ca w env σ) (i : Nat) (r : Rep K ca w v d) : Sim K ca w (env.set i (some d)) (σ.set i (some v)) := by
  refine ⟨by simp [h.1], fun j x q => ?_⟩
  by_cases hj : i = j
  · subst hj
    by_cases hl : i < env.length
    · rw [List.getElem?_set_self hl] at q
      cases q
      exact ⟨v, by rw [List.getElem?_set_self (by rw [← h.1]; exact hl)], r⟩
    · rw [List.getElem?_eq_none (by simpa using hl)] at q
      cases q
  · rw [List.getElem?_set_ne hj] at q
    obtain ⟨u, a, b⟩ := h.2 j x q
    exact ⟨u, by rw [List.getElem?_set_ne hj]; exact a, b⟩
theorem satLater {α : Type} {r : R α} {Q : Wd → α → Store → Prop} {E : Wd → Nat → D → Store → Prop} (h : Sat r (Q w) (E w)) (hq : ∀ a S, Q w a S → Q w' a S) (he : ∀ c v S, E w c v S → E w' c v S) : Sat r (Q w') (E w') := h.mono hq he
theorem QV.later {Q : VK} {d : D} (e : Ext w w') (h : QV K ca w Q d S) : QV K ca w' Q d S := Aft.later h e
theorem QE.later {W : WX} {σ : St} {c : Nat} {x : D} (e : Ext w w') (h : QE K ca w W σ c x S) : QE K ca w' W σ c x S := Aft.later h e
theorem QL.later {Q : List V → Hp → Prop} {d : List D} (e : Ext w w') (h : QL K ca w Q d S) : QL K ca w' Q d S := Aft.later h e
theorem QB.later {Q : Bool → Hp → Prop} {b : Bool} (e : Ext w w') (h : QB K ca w Q b S) : QB K ca w' Q b S := Aft.later h e
theorem QF.later {Q : VK} {d : List D} (e : Ext w w') (h : QF K ca w Q d S) : QF K ca w' Q d S := Aft.later h e
end

/-! ### a weaker reading -/
theorem PE.imp {X : Cx} {e : Expr} {t t' : TE} (h : PE X e t) (f : ∀ σ H Q, t' σ H Q → t σ H Q) : PE X e t' := ⟨fun pins s σ H Q I q => h.run pins s σ H Q I (f σ H Q q)⟩
theorem PA.imp {X : Cx} {e : List Expr} {t t' : TA} (h : PA X e t) (f : ∀ σ H Q, t' σ H Q → t σ H Q) : PA X e t' := ⟨fun pos pins s σ H Q I q => h.run pos pins s σ H Q I (f σ H Q q)⟩
theorem PT.imp {X : Cx} {e : Expr} {t t' : TT} (h : PT X e t) (f : ∀ σ H Q, t' σ H Q → t σ H Q) : PT X e t' := ⟨fun pins s σ H Q I q => h.run pins s σ H Q I (f σ H Q q)⟩
theorem PW.imp {X : Cx} {e : Expr} {t t' : TT} (h : PW X e t) (f : ∀ σ H Q, t' σ H Q → t σ H Q) : PW X e t' := ⟨fun wh pins s σ H Q I q => h.run wh pins s σ H Q I (f σ H Q q)⟩
theorem PS.imp {X : Cx} {e : Stmt} {t t' : TS} (h : PS X e t) (f : ∀ D σ H, t' D σ H → t D σ H) : PS X e t' := ⟨fun pins s σ H D I q => h.run pins s σ H D I (f D σ H q)⟩
theorem PSs.imp {X : Cx} {e : List Stmt} {t t' : TS} (h : PSs X e t) (f : ∀ D σ H, t' D σ H → t D σ H) : PSs X e t' := ⟨fun pins s σ H D I q => h.run pins s σ H D I (f D σ H q)⟩

/-! ### expressions -/
section
variable {X : Cx} {ca : Nat → Addr} {W : WX} {pos : Pos} {f g : Den} {gs hs : Dens} {a b : Expr} {es : List Expr}

/-- one, then the other -/
theorem tE_bind {σ : St} {H : Hp} {β : Type} {k : D → Store → R β} {w : Wd} {env : Env} {Qb : Wd → β → Store → Prop} {R : V → Hp → Prop}
    (e : w.H = H) (s : SOk X.K ca w) (m : Sim X.K ca w env σ) (h : Sat ((f env w.S).bind k) (Qb w) (QE X.K ca w W σ))
    (hl : ∀ {w' : Wd} {b : β} {S : Store}, Ext w w' → Qb w b S → Qb w' b S)
    (hr : ∀ w1 d v, SOk X.K ca w1 → Sim X.K ca w1 env σ → Rep X.K ca w1 v d → Ext w w1 → Sat (k d w1.S) (Qb w1) (QE X.K ca w1 W σ) → R v w1.H) :
    tE X.K ca W f σ H R := by
  refine ⟨w, env, e, s, m, (Sat.bind h).mono (fun d S1 q => ?_) fun c v S q => q⟩
  intro w1 hS e1 s1 v r
  subst hS
  exact hr w1 d v s1 (m.mono e1 s) r e1 (q.mono (fun b S z => hl e1 z) fun c v S z => QE.later e1 z)
theorem tEs_bind {σ : St} {H : Hp} {β : Type} {k : List D → Store → R β} {w : Wd} {env : Env} {Qb : Wd → β → Store → Prop} {R : List V → Hp → Prop}
    (e : w.H = H) (s : SOk X.K ca w) (m : Sim X.K ca w env σ) (h : Sat ((gs env w.S).bind k) (Qb w) (QE X.K ca w W σ))
    (hl : ∀ {w' : Wd} {b : β} {S : Store}, Ext w w' → Qb w b S → Qb w' b S)
    (hr : ∀ w1 d v, SOk X.K ca w1 → Sim X.K ca w1 env σ → RepL X.K ca w1 v d → Ext w w1 → Sat (k d w1.S) (Qb w1) (QE X.K ca w1 W σ) → R v w1.H) :
    tEs X.K ca W gs σ H R := by
  refine ⟨w, env, e, s, m, (Sat.bind h).mono (fun d S1 q => ?_) fun c v S q => q⟩
  intro w1 hS e1 s1 v r
  subst hS
  exact hr w1 d v s1 (m.mono e1 s) r e1 (q.mono (fun b S z => hl e1 z) fun c v S z => QE.later e1 z)
theorem tT_bind {t : DenT} {σ : St} {H : Hp} {β : Type} {k : Bool → Store → R β} {w : Wd} {env : Env} {Qb : Wd → β → Store → Prop} {R : Bool → Hp → Prop}
    (e : w.H = H) (s : SOk X.K ca w) (m : Sim X.K ca w env σ) (h : Sat ((t env w.S).bind k) (Qb w) (QE X.K ca w W σ))
    (hl : ∀ {w' : Wd} {b : β} {S : Store}, Ext w w' → Qb w b S → Qb w' b S)
    (hr : ∀ w1 b, SOk X.K ca w1 → Sim X.K ca w1 env σ → Ext w w1 → Sat (k b w1.S) (Qb w1) (QE X.K ca w1 W σ) → R b w1.H) :
    tT X.K ca W t σ H R := by
  refine ⟨w, env, e, s, m, (Sat.bind h).mono (fun d S1 q => ?_) fun c v S q => q⟩
  intro w1 hS e1 s1
  subst hS
  exact hr w1 d s1 (m.mono e1 s) e1 (q.mono (fun b S z => hl e1 z) fun c v S z => QE.later e1 z)

theorem e_var {i : Nat} {x : Str} (hN : X.N[i]? = some x) (hv : Vis X.env.scope x) (hd : (x == ("__debug__" : Str)) = false := by decide) (hcd : (x == ("__classdict__" : Str)) = false := by decide) : PE X (.Name x pos) ((tE X.K ca W) (eVar i)) := by
  refine PE.imp (pe_var hN hv hd hcd) fun σ H Q ⟨w, env, e, s, m, h⟩ => ?_
  subst e
  unfold eVar at h
  cases q : env[i]? with
  | none => rw [q] at h; exact h.elim
  | some o =>
    cases o with
    | none => rw [q] at h; exact h.elim
    | some d =>
      rw [q] at h
      obtain ⟨v, hv, r⟩ := m.2 i d q
      exact ⟨v, hv, Aft.here (w' := w) h (.refl w) s v r⟩
/-- a constant -/
theorem e_c {v : V} {d : D} (he : PE X a (tC v)) (r : ∀ w : Wd, SOk X.K ca w → Rep X.K ca w v d) : PE X a ((tE X.K ca W) (eC d)) :=
  PE.imp he fun σ H Q ⟨w, env, e, s, m, h⟩ => by
    subst e
    exact Aft.here (w' := w) h (.refl w) s v (r w s)
theorem e_int {i : Int} {j} : PE X (.Constant (.int i) j pos) ((tE X.K ca W) (eC (.int i))) := e_c pe_int fun _ _ => .int i
theorem e_bl {b : Bool} {j} : PE X (.Constant (.bool b) j pos) ((tE X.K ca W) (eC (.bl b))) := e_c pe_bl fun _ _ => .bl b
theorem e_non {j} : PE X (.Constant .none j pos) ((tE X.K ca W) (eC .non)) := e_c pe_non fun _ _ => .non
theorem e_str {x : Str} {j} : PE X (.Constant (.str x) j pos) ((tE X.K ca W) (eC (.str x))) := e_c pe_str fun _ _ => .str x

/-- an operation on values -/
def rO2 (K : PySem.W.Frag) (ca : Nat → Addr) (o : Op2) : R2 := fun x y H Q => ∃ w dx dy, w.H = H ∧ SOk K ca w ∧ Rep K ca w x dx ∧ Rep K ca w y dy ∧ Sat (o dx dy w.S) (QV K ca w Q) fun _ _ _ => False
def rO1 (K : PySem.W.Frag) (ca : Nat → Addr) (o : Op1) : V → Hp → VK → Prop := fun x H Q => ∃ w dx, w.H = H ∧ SOk K ca w ∧ Rep K ca w x dx ∧ Sat (o dx w.S) (QV K ca w Q) fun _ _ _ => False
def rON (K : PySem.W.Frag) (ca : Nat → Addr) (o : OpN) : List V → Hp → VK → Prop := fun xs H Q => ∃ w ds, w.H = H ∧ SOk K ca w ∧ RepL K ca w xs ds ∧ Sat (o ds w.S) (QV K ca w Q) fun _ _ _ => False
/-- it never raises -/
def Mute2 (o : Op2) : Prop := ∀ a b S c v S', o a b S ≠ .err c v S'
def Mute1 (o : Op1) : Prop := ∀ a S c v S', o a S ≠ .err c v S'
def MuteN (o : OpN) : Prop := ∀ a S c v S', o a S ≠ .err c v S'
theorem Sat.noErr {α : Type} {r : R α} {Q : α → Store → Prop} {E E' : Nat → D → Store → Prop} (h : Sat r Q E) (n : ∀ c v S, r ≠ .err c v S) : Sat r Q E' := by
  cases r with
  | ok a S => exact h
  | err c v S => exact absurd rfl (n c v S)
  | bad => exact h
theorem bin_imp {o : Op2} (n : Mute2 o) {σ : St} {H : Hp} {Q : VK} (h : (tE X.K ca W) (eBin o f g) σ H Q) : tOp (rO2 X.K ca o) ((tE X.K ca W) f) ((tE X.K ca W) g) σ H Q := by
  obtain ⟨w, env, e, s, m, h⟩ := h
  refine tE_bind (Qb := fun w => QV X.K ca w Q) e s m h (fun e q => QV.later e q) fun w1 d v s1 m1 r e1 h1 => ?_
  refine tE_bind (Qb := fun w => QV X.K ca w Q) rfl s1 m1 h1 (fun e q => QV.later e q) fun w2 d2 v2 s2 m2 r2 e2 h2 => ?_
  exact ⟨w2, d, d2, rfl, s2, r.mono e2 s1, r2, h2.noErr (n _ _ _)⟩
theorem e_bin {op : Operator} {o : Op2} (ho : OpR X (binaryOp op) (rO2 X.K ca o)) (n : Mute2 o) (ha : PE X a ((tE X.K ca W) f)) (hb : PE X b ((tE X.K ca W) g)) : PE X (.BinOp a op b pos) ((tE X.K ca W) (eBin o f g)) :=
  PE.imp (pe_op ho ha hb) fun _ _ _ h => bin_imp n h
theorem e_cmp {op : CmpOp} {o : Op2} (ho : OpR X (compareOp op) (rO2 X.K ca o)) (n : Mute2 o) (ha : PE X a ((tE X.K ca W) f)) (hb : PE X b ((tE X.K ca W) g)) (hm : behindInMarks op b = false) : PE X (.Compare a [op] [b] pos) ((tE X.K ca W) (eBin o f g)) :=
  PE.imp (pe_cmpR ho ha hb hm) fun _ _ _ h => bin_imp n h
theorem un_imp {o : Op1} (n : Mute1 o) {σ : St} {H : Hp} {Q : VK} (h : (tE X.K ca W) (eUn o f) σ H Q) : tUn (rO1 X.K ca o) ((tE X.K ca W) f) σ H Q := by
  obtain ⟨w, env, e, s, m, h⟩ := h
  refine tE_bind (Qb := fun w => QV X.K ca w Q) e s m h (fun e q => QV.later e q) fun w1 d v s1 m1 r e1 h1 => ?_
  exact ⟨w1, d, rfl, s1, r, h1.noErr (n _ _)⟩
theorem e_un {op : UnaryOp} {o : Op1} (ho : UnR X (unaryOp op) (rO1 X.K ca o)) (n : Mute1 o) (ha : PE X a ((tE X.K ca W) f)) : PE X (.UnaryOp op a pos) ((tE X.K ca W) (eUn o f)) :=
  PE.imp (pe_un ho ha) fun _ _ _ h => un_imp n h
/-- rows of values -/
theorem d_nil : PA X [] ((tEs X.K ca W) dNil) := PA.imp pa_nil fun σ H Q ⟨w, env, e, s, m, h⟩ => by
  subst e
  exact Aft.here (w' := w) h (.refl w) s [] .nil
theorem d_cons (ha : PE X a ((tE X.K ca W) f)) (hb : PA X es ((tEs X.K ca W) gs)) (hst : starEach (a :: es) X.env = (false, eval a X.env) :: starEach es X.env := by rfl) : PA X (a :: es) ((tEs X.K ca W) (dCons f gs)) :=
  PA.imp (pa_cons ha hb hst) fun σ H Q ⟨w, env, e, s, m, h⟩ => by
    refine tE_bind (Qb := fun w => QL X.K ca w Q) e s m h (fun e q => QL.later e q) fun w1 d v s1 m1 r e1 h1 => ?_
    refine tEs_bind (Qb := fun w => QL X.K ca w Q) rfl s1 m1 h1 (fun e q => QL.later e q) fun w2 d2 v2 s2 m2 r2 e2 h2 => ?_
    exact Aft.here (w' := w2) h2 (.refl w2) s2 _ (.cons (r.mono e2 s1) r2)
theorem d_len_nil {e : Env} {S S' : Store} {ds : List D} (h : dNil e S = .ok ds S') : ds.length = 0 := by
  cases h; rfl
/-- all that it gives has this length -/
def Len (g : Dens) (n : Nat) : Prop := ∀ e S ds S', g e S = .ok ds S' → ds.length = n
theorem len_nil : Len dNil 0 := fun _ _ _ _ h => by cases h; rfl
theorem len_cons {n : Nat} (h : Len gs n) : Len (dCons f gs) (n + 1) := fun e S ds S' q => by
  unfold dCons at q
  cases h1 : f e S with
  | ok d S1 =>
    rw [h1] at q
    simp only [R.bind] at q
    cases h2 : gs e S1 with
    | ok ds2 S2 =>
      rw [h2] at q
      simp only [R.bind] at q
      cases q
      rw [List.length_cons, h e S1 _ _ h2]
    | err c v S2 => rw [h2] at q; cases q
    | bad => rw [h2] at q; cases q
  | err c v S1 => rw [h1] at q; cases q
  | bad => rw [h1] at q; cases q
theorem Ext.alloc {w : Wd} {p : Addr} {o : HO} (h : w.H p = none) : Ext w ⟨upd w.H p o, w.ρ, w.S⟩ where
  keep := fun a u q _ => by
    show upd w.H p o a = some u
    rw [upd_ne (ne_of_none q h)]; exact q
  fresh := fun a m => .inl m
  rho := fun _ _ => rfl
  len := Nat.le_refl _
theorem SOk.alloc {w : Wd} {p : Addr} {o : HO} (s : SOk X.K ca w) (h : w.H p = none) : SOk X.K ca ⟨upd w.H p o, w.ρ, w.S⟩ where
  live := fun n xs q => by
    obtain ⟨vs, a, r⟩ := s.live n xs q
    refine ⟨vs, ?_, r.mono (.alloc h) s⟩
    show upd w.H p o (w.ρ n) = _
    rw [upd_ne (ne_of_none a h)]; exact a
  inj := s.inj
theorem tup_imp {σ : St} {H : Hp} {Q : VK} {n : Nat} (hl : Len gs n) (hn : n ≤ sizeLine) (h : (tE X.K ca W) (eTup gs) σ H Q) : tTup ((tEs X.K ca W) gs) σ H Q := by
  obtain ⟨w, env, e, s, m, h⟩ := h
  have hlen : ∀ ds S', gs env w.S = .ok ds S' → ds.length = n := fun ds S' q => hl _ _ _ _ q
  refine ⟨w, env, e, s, m, ?_⟩
  unfold eTup at h
  cases q : gs env w.S with
  | bad => rw [q] at h; exact h
  | err c v S1 => rw [q] at h; exact h
  | ok ds S1 =>
    rw [q] at h
    intro w1 hS e1 s1 vs r
    subst hS
    refine ⟨by rw [r.length, hlen _ _ q]; exact hn, fun p hp => ?_⟩
    have x := Ext.alloc (w := w1) (o := .tup vs) hp
    exact h ⟨upd w1.H p (.tup vs), w1.ρ, w1.S⟩ rfl (e1.trans x) (s1.alloc hp) (.ref p) (.tup (.inl (.inl upd_same)) (r.mono x s1))
theorem e_tup {x1} {n : Nat} (ha : PA X es ((tEs X.K ca W) gs)) (hl : Len gs n) (hn : n ≤ sizeLine := by decide) : PE X (.Tuple es x1 pos) ((tE X.K ca W) (eTup gs)) :=
  PE.imp (pe_tup ha) fun _ _ _ h => tup_imp hl hn h

/-! ### a fresh list: kept as data, or laid into the store -/
theorem f_val (ha : PE X a ((tF X.K ca W) gs)) : PE X a ((tE X.K ca W) (eLst gs)) := PE.imp ha fun σ H Q ⟨w, env, e, s, m, h⟩ => by
  refine ⟨w, env, e, s, m, (Sat.bind h).mono (fun ds S1 q => ?_) fun _ _ _ q => q⟩
  intro w1 hS e1 s1 vs p r hp
  subst hS
  have x := Ext.alloc (w := w1) (o := .lst vs) hp
  refine q ⟨upd w1.H p (.lst vs), w1.ρ, w1.S⟩ rfl (e1.trans x) (s1.alloc hp) (.ref p) (.lst upd_same ?_ (r.mono x s1))
  exact fun m => s1.notM0 hp m
theorem new_ext {w : Wd} {p : Addr} {vs : List V} {ds : List D} (s : SOk X.K ca w) (h : w.H p = none) (r : RepL X.K ca w vs ds) :
    let w' : Wd := ⟨upd w.H p (.lst vs), fun n => if n = w.S.length then p else w.ρ n, w.S ++ [.lst ds]⟩
    Ext w w' ∧ SOk X.K ca w' := by
  intro w'
  have hM : ∀ a, w'.M a → w.M a ∨ a = p := fun a ⟨n, xs, q, e⟩ => by
    by_cases hn : n = w.S.length
    · refine .inr ?_
      have : w'.ρ n = p := if_pos hn
      rw [← e, this]
    · refine .inl ⟨n, xs, ?_, ?_⟩
      · have q' : (w.S ++ [O.lst ds])[n]? = some (.lst xs) := q
        by_cases hlt : n < w.S.length
        · rw [List.getElem?_append_left hlt] at q'; exact q'
        · rw [List.getElem?_append_right (Nat.le_of_not_lt hlt)] at q'
          have hz : n - w.S.length ≠ 0 := by omega
          obtain ⟨k, hk⟩ := Nat.exists_eq_succ_of_ne_zero hz
          rw [hk] at q'; cases q'
      · have : w'.ρ n = w.ρ n := if_neg hn
        rw [← this]; exact e
  have x : Ext w w' := {
    keep := fun a o q _ => by
      show upd w.H p (.lst vs) a = some o
      rw [upd_ne (ne_of_none q h)]; exact q
    fresh := fun a m => by
      rcases hM a m with z | z
      · exact .inl z
      · exact .inr (by rw [z]; exact h)
    rho := fun n hn => if_neg (Nat.ne_of_lt hn)
    len := by show w.S.length ≤ (w.S ++ [O.lst ds]).length; rw [List.length_append]; omega }
  refine ⟨x, ?_, ?_⟩
  · intro n xs q
    have q' : (w.S ++ [O.lst ds])[n]? = some (.lst xs) := q
    by_cases hlt : n < w.S.length
    · rw [List.getElem?_append_left hlt] at q'
      obtain ⟨us, a, b⟩ := s.live n xs q'
      refine ⟨us, ?_, b.mono x s⟩
      have e : w'.ρ n = w.ρ n := if_neg (Nat.ne_of_lt hlt)
      show upd w.H p (.lst vs) (w'.ρ n) = _
      rw [e, upd_ne (ne_of_none a h)]; exact a
    · rw [List.getElem?_append_right (Nat.le_of_not_lt hlt)] at q'
      by_cases hz : n - w.S.length = 0
      · rw [hz] at q'
        have e2 : O.lst ds = O.lst xs := Option.some.inj q'
        injection e2 with e2
        subst e2
        refine ⟨vs, ?_, r.mono x s⟩
        have e : w'.ρ n = p := if_pos (by omega)
        show upd w.H p (.lst vs) (w'.ρ n) = _
        rw [e]; exact upd_same
      · obtain ⟨k, hk⟩ := Nat.exists_eq_succ_of_ne_zero hz
        rw [hk] at q'; cases q'
  · intro n m xs ys q1 q2 e
    have key : ∀ n xs, w'.S[n]? = some (.lst xs) → (n < w.S.length ∧ w.S[n]? = some (.lst xs) ∧ w'.ρ n = w.ρ n ∧ w'.ρ n ≠ p) ∨ (n = w.S.length ∧ w'.ρ n = p) := fun n xs q => by
      have q' : (w.S ++ [O.lst ds])[n]? = some (.lst xs) := q
      by_cases hlt : n < w.S.length
      · rw [List.getElem?_append_left hlt] at q'
        have e : w'.ρ n = w.ρ n := if_neg (Nat.ne_of_lt hlt)
        refine .inl ⟨hlt, q', e, fun z => ?_⟩
        obtain ⟨us, a, _⟩ := s.live n xs q'
        rw [← e, z, h] at a; cases a
      · rw [List.getElem?_append_right (Nat.le_of_not_lt hlt)] at q'
        by_cases hz : n - w.S.length = 0
        · have hn : n = w.S.length := by omega
          exact .inr ⟨hn, if_pos hn⟩
        · obtain ⟨k, hk⟩ := Nat.exists_eq_succ_of_ne_zero hz
          rw [hk] at q'; cases q'
    rcases key n xs q1 with ⟨l1, g1, e1, n1⟩ | ⟨l1, e1⟩
    · rcases key m ys q2 with ⟨l2, g2, e2, n2⟩ | ⟨l2, e2⟩
      · exact s.inj n m xs ys g1 g2 (by rw [← e1, ← e2]; exact e)
      · exact absurd (e.trans e2) n1
    · rcases key m ys q2 with ⟨l2, g2, e2, n2⟩ | ⟨l2, e2⟩
      · exact absurd (e.symm.trans e1) n2
      · rw [l1, l2]
theorem f_new (ha : PE X a ((tF X.K ca W) gs)) : PE X a ((tE X.K ca W) (eNew gs)) := PE.imp ha fun σ H Q ⟨w, env, e, s, m, h⟩ => by
  refine ⟨w, env, e, s, m, (Sat.bind h).mono (fun ds S1 q => ?_) fun _ _ _ q => q⟩
  intro w1 hS e1 s1 vs p r hp
  subst hS
  obtain ⟨x, s2⟩ := new_ext s1 hp r
  have rr : Rep X.K ca ⟨upd w1.H p (.lst vs), fun n => if n = w1.S.length then p else w1.ρ n, w1.S ++ [.lst ds]⟩ (.ref ((fun n => if n = w1.S.length then p else w1.ρ n) w1.S.length)) (.ref w1.S.length) := .ref (by show w1.S.length < (w1.S ++ [O.lst ds]).length; rw [List.length_append]; exact Nat.lt_succ_self _)
  have ep : (fun n => if n = w1.S.length then p else w1.ρ n) w1.S.length = p := if_pos rfl
  rw [ep] at rr
  exact q _ rfl (e1.trans x) s2 (.ref p) rr
/-- [a, b, ..] -/
theorem f_lst {n : Nat} (ha : PA X es ((tEs X.K ca W) gs)) (hl : Len gs n) (hn : n ≤ sizeLine := by decide) : PE X (.List es pos) ((tF X.K ca W) gs) := PE.imp (pe_lst ha) fun σ H Q ⟨w, env, e, s, m, h⟩ => by
  have hlen : ∀ ds S', gs env w.S = .ok ds S' → ds.length = n := fun ds S' q => hl _ _ _ _ q
  refine ⟨w, env, e, s, m, ?_⟩
  cases q : gs env w.S with
  | bad => rw [q] at h; exact h
  | err c v S1 => rw [q] at h; exact h
  | ok ds S1 =>
    rw [q] at h
    intro w1 hS e1 s1 vs r
    subst hS
    exact ⟨by rw [r.length, hlen _ _ q]; exact hn, fun p hp => h w1 rfl e1 s1 vs p r hp⟩

/-! ### a if t else b -/
theorem e_ifExp {c : Expr} {t : DenT} (hc : PT X c ((tT X.K ca W) t)) (ha : PE X a ((tE X.K ca W) f)) (hb : PE X b ((tE X.K ca W) g)) : PE X (.IfExp c a b pos) ((tE X.K ca W) (eIf t f g)) :=
  PE.imp (pe_ifExp hc ha hb) fun σ H Q ⟨w, env, e, s, m, h⟩ => by
    refine tT_bind (Qb := fun w => QV X.K ca w Q) e s m h (fun e q => QV.later e q) fun w1 b s1 m1 e1 h1 => ?_
    cases b with
    | true => exact iteT ⟨w1, env, rfl, s1, m1, h1⟩
    | false => exact iteF ⟨w1, env, rfl, s1, m1, h1⟩

/-! ### tests -/
theorem val_imp {σ : St} {H : Hp} {Q : Bool → Hp → Prop} (h : (tT X.K ca W) (tVal f) σ H Q) : tB ((tE X.K ca W) f) σ H Q := by
  obtain ⟨w, env, e, s, m, h⟩ := h
  refine tE_bind (Qb := fun w => QB X.K ca w Q) e s m h (fun e q => QB.later e q) fun w1 d v s1 m1 r e1 h1 => ?_
  cases r with
  | bl b => exact ⟨b, rfl, Aft.here (w' := w1) h1 (.refl w1) s1⟩
  | _ => exact h1.elim
theorem t_val (ha : PE X a ((tE X.K ca W) f)) (he : ∀ whole, isTrue a X.env whole = (do let v ← whole; standAt a.pos; holding [v] (truthy v)) := by intro _; rfl) : PT X a ((tT X.K ca W) (tVal f)) :=
  PT.imp (pt_val ha he) fun _ _ _ h => val_imp h
theorem t_cmp {op : CmpOp} {o : Op2} (ho : OpR X (compareOp op) (rO2 X.K ca o)) (n : Mute2 o) (ha : PE X a ((tE X.K ca W) f)) (hb : PE X b ((tE X.K ca W) g)) (hm : behindInMarks op b = false) : PT X (.Compare a [op] [b] pos) ((tT X.K ca W) (tVal (eBin o f g))) :=
  PT.imp (pt_cmpR ho ha hb hm) fun σ H Q h => by
    obtain ⟨w, env, e, s, m, h⟩ := h
    have h' : (tE X.K ca W) (eBin o f g) σ H fun x H' => ∃ k, x = .bl k ∧ Q k H' := by
      refine ⟨w, env, e, s, m, (Sat.bind h).mono (fun d S1 q => ?_) fun _ _ _ q => q⟩
      intro w1 hS e1 s1 v r
      subst hS
      cases r with
      | bl b => exact ⟨b, rfl, Aft.here (w' := w1) q e1 s1⟩
      | _ => exact q.elim
    exact bin_imp n h'
theorem t_not {t : DenT} (ha : PT X a ((tT X.K ca W) t)) : PT X (.UnaryOp .Not a pos) ((tT X.K ca W) (tNot t)) := PT.imp (pt_not ha) fun σ H Q ⟨w, env, e, s, m, h⟩ =>
  ⟨w, env, e, s, m, (Sat.bind h).mono (fun b S1 q => q) fun _ _ _ q => q⟩
theorem w_and1 {t : DenT} (ha : PT X a ((tT X.K ca W) t)) : PW X (.BoolOp .And [a] pos) ((tT X.K ca W) t) := pw_and1 ha
theorem w_or1 {t : DenT} (ha : PT X a ((tT X.K ca W) t)) : PW X (.BoolOp .Or [a] pos) ((tT X.K ca W) t) := pw_or1 ha
theorem w_and {t u : DenT} (ha : PT X a ((tT X.K ca W) t)) (hb : PW X (.BoolOp .And (b :: es) pos) ((tT X.K ca W) u)) : PW X (.BoolOp .And (a :: b :: es) pos) ((tT X.K ca W) (tAnd t u)) :=
  PW.imp (pw_and ha hb) fun σ H Q ⟨w, env, e, s, m, h⟩ => by
    refine tT_bind (Qb := fun w => QB X.K ca w Q) e s m h (fun e q => QB.later e q) fun w1 b s1 m1 e1 h1 => ?_
    cases b with
    | true => exact iteT ⟨w1, env, rfl, s1, m1, h1⟩
    | false => exact iteF (Aft.here (w' := w1) h1 (.refl w1) s1)
theorem w_or {t u : DenT} (ha : PT X a ((tT X.K ca W) t)) (hb : PW X (.BoolOp .Or (b :: es) pos) ((tT X.K ca W) u)) : PW X (.BoolOp .Or (a :: b :: es) pos) ((tT X.K ca W) (tOr t u)) :=
  PW.imp (pw_or ha hb) fun σ H Q ⟨w, env, e, s, m, h⟩ => by
    refine tT_bind (Qb := fun w => QB X.K ca w Q) e s m h (fun e q => QB.later e q) fun w1 b s1 m1 e1 h1 => ?_
    cases b with
    | true => exact iteT (Aft.here (w' := w1) h1 (.refl w1) s1)
    | false => exact iteF ⟨w1, env, rfl, s1, m1, h1⟩
theorem e_one {op} (ha : PE X a ((tE X.K ca W) f)) : PE X (.BoolOp op [a] pos) ((tE X.K ca W) f) := pe_one ha
theorem e_and (ha : PE X a ((tE X.K ca W) f)) (hb : PE X (.BoolOp .And (b :: es) pos) ((tE X.K ca W) g)) : PE X (.BoolOp .And (a :: b :: es) pos) ((tE X.K ca W) (eAnd f g)) :=
  PE.imp (pe_and ha hb) fun σ H Q ⟨w, env, e, s, m, h⟩ => by
    refine tE_bind (Qb := fun w => QV X.K ca w Q) e s m h (fun e q => QV.later e q) fun w1 d v s1 m1 r e1 h1 => ?_
    cases r with
    | bl b =>
      refine ⟨b, rfl, ?_⟩
      cases b with
      | true => exact iteT ⟨w1, env, rfl, s1, m1, h1⟩
      | false => exact iteF (Aft.here (w' := w1) h1 (.refl w1) s1 _ (.bl false))
    | _ => exact h1.elim
theorem e_or (ha : PE X a ((tE X.K ca W) f)) (hb : PE X (.BoolOp .Or (b :: es) pos) ((tE X.K ca W) g)) : PE X (.BoolOp .Or (a :: b :: es) pos) ((tE X.K ca W) (eOr f g)) :=
  PE.imp (pe_or ha hb) fun σ H Q ⟨w, env, e, s, m, h⟩ => by
    refine tE_bind (Qb := fun w => QV X.K ca w Q) e s m h (fun e q => QV.later e q) fun w1 d v s1 m1 r e1 h1 => ?_
    cases r with
    | bl b =>
      refine ⟨b, rfl, ?_⟩
      cases b with
      | true => exact iteT (Aft.here (w' := w1) h1 (.refl w1) s1 _ (.bl true))
      | false => exact iteF ⟨w1, env, rfl, s1, m1, h1⟩
    | _ => exact h1.elim
theorem e_not (ha : PE X a ((tE X.K ca W) f)) : PE X (.UnaryOp .Not a pos) ((tE X.K ca W) (eNot f)) := PE.imp (pe_not ha) fun σ H Q ⟨w, env, e, s, m, h⟩ => by
  refine tE_bind (Qb := fun w => QV X.K ca w Q) e s m h (fun e q => QV.later e q) fun w1 d v s1 m1 r e1 h1 => ?_
  cases r with
  | bl b => exact ⟨b, rfl, Aft.here (w' := w1) h1 (.refl w1) s1 _ (.bl (!b))⟩
  | _ => exact h1.elim
end
end Py

set_option maxHeartbeats 4000000
/-! PyC: what the operations on values do. -/
namespace Py
open PySem PySem.Spec PyProof.Rows L2

/-! ### never raising -/
theorem m_add : Mute2 oAdd := by unfold oAdd; intro a b S c v S' h; revert h; cases a <;> cases b <;> simp <;> (repeat (split <;> simp))
theorem m_sub : Mute2 oSub := by unfold oSub; intro a b S c v S' h; revert h; cases a <;> cases b <;> simp <;> (repeat (split <;> simp))
theorem m_mul : Mute2 oMul := by unfold oMul; intro a b S c v S' h; revert h; cases a <;> cases b <;> simp <;> (repeat (split <;> simp))
theorem m_fdiv : Mute2 oFdiv := by unfold oFdiv; intro a b S c v S' h; revert h; cases a <;> cases b <;> simp <;> (repeat (split <;> simp))
theorem m_mod : Mute2 oMod := by unfold oMod; intro a b S c v S' h; revert h; cases a <;> cases b <;> simp <;> (repeat (split <;> simp))
theorem m_pow : Mute2 oPow := by unfold oPow; intro a b S c v S' h; revert h; cases a <;> cases b <;> simp <;> (repeat (split <;> simp))
theorem m_lt : Mute2 oLt := by unfold oLt; intro a b S c v S' h; revert h; cases a <;> cases b <;> simp <;> (repeat (split <;> simp))
theorem m_le : Mute2 oLe := by unfold oLe; intro a b S c v S' h; revert h; cases a <;> cases b <;> simp <;> (repeat (split <;> simp))
theorem m_gt : Mute2 oGt := by unfold oGt; intro a b S c v S' h; revert h; cases a <;> cases b <;> simp <;> (repeat (split <;> simp))
theorem m_ge : Mute2 oGe := by unfold oGe; intro a b S c v S' h; revert h; cases a <;> cases b <;> simp <;> (repeat (split <;> simp))
theorem m_eq : Mute2 oEq := by intro a b S c v S' h; revert h; unfold oEq; split <;> (try split) <;> simp
theorem m_ne : Mute2 oNe := by intro a b S c v S' h; revert h; unfold oNe; split <;> (try split) <;> simp
theorem m_neg : Mute1 oNeg := by unfold oNeg; intro a S c v S' h; revert h; cases a <;> simp
theorem m_isN : Mute1 oIsN := by unfold oIsN; intro a S c v S' h; revert h; cases a <;> simp
theorem m_notN : Mute1 oNotN := by unfold oNotN; intro a S c v S' h; revert h; cases a <;> simp

section
variable {X : Cx} {ca : Nat → Addr}
/-- what two values of an operation are -/
theorem r_int2 {f : Value → Value → Sem Value} {o : Op2} {C : Int → Int → Prop} {g : Int → Int → V} (ho : OpR X f (rI C g))
    (h : ∀ (dx dy : D) (w : Wd) (Q : VK), SOk X.K ca w → Sat (o dx dy w.S) (QV X.K ca w Q) (fun _ _ _ => False) → ∃ i j, dx = .int i ∧ dy = .int j ∧ C i j ∧ Q (g i j) w.H) : OpR X f (rO2 X.K ca o) := by
  intro pins s σ H x y v u Q I rx ry hq
  obtain ⟨w, dx, dy, e, sk, r1, r2, q⟩ := hq
  subst e
  obtain ⟨i, j, rfl, rfl, hc, q'⟩ := h dx dy w Q sk q
  cases r1
  cases r2
  exact ho pins s σ w.H _ _ v u Q I rx ry ⟨i, j, rfl, rfl, hc, q'⟩
theorem r_int0 {f : Value → Value → Sem Value} {o : Op2} {g : Int → Int → V} (ho : OpR X f (rI0 g))
    (h : ∀ (dx dy : D) (w : Wd) (Q : VK), SOk X.K ca w → Sat (o dx dy w.S) (QV X.K ca w Q) (fun _ _ _ => False) → ∃ i j, dx = .int i ∧ dy = .int j ∧ Q (g i j) w.H) : OpR X f (rO2 X.K ca o) := by
  intro pins s σ H x y v u Q I rx ry hq
  obtain ⟨w, dx, dy, e, sk, r1, r2, q⟩ := hq
  subst e
  obtain ⟨i, j, rfl, rfl, q'⟩ := h dx dy w Q sk q
  cases r1
  cases r2
  exact ho pins s σ w.H _ _ v u Q I rx ry ⟨i, j, rfl, rfl, q'⟩
theorem sat_here {w : Wd} {d : D} {Q : VK} {v : V} (s : SOk X.K ca w) (h : QV X.K ca w Q d w.S) (r : Rep X.K ca w v d) : Q v w.H := Aft.here (w' := w) h (.refl w) s v r
theorem r_sub : OpR X (binaryOp .Sub) (rO2 X.K ca oSub) := r_int0 op_sub fun dx dy w Q s h => by
  unfold oSub at h
  cases dx <;> cases dy <;> first | exact h.elim | exact ⟨_, _, rfl, rfl, sat_here s h (.int _)⟩
theorem mulOk_ok {i j : Int} (h : mulOk i j = true) : IntMulOk i j := by
  have h' : bits i + bits j ≤ 134217728 := of_decide_eq_true h
  have b : ∀ x : Int, Builtin.Int.intBits x ≤ x.natAbs.log2 + 1 := fun x => by
    unfold Builtin.Int.intBits
    split <;> omega
  have h1 := b i
  have h2 := b j
  have e : bitsLine = 134217728 := by decide
  unfold bits at h'
  unfold IntMulOk
  intro z
  rw [Bool.and_eq_true] at z
  have z2 := z.2
  unfold Builtin.Int.intTooBig at z2
  have z3 := of_decide_eq_true z2
  rw [e] at z3
  omega
theorem op_mulB : OpR X (binaryOp .Mult) (rI (fun i j => mulOk i j = true) fun i j => .int (i * j)) := opI fun _ _ _ _ _ _ _ hc q => mul_int q (mulOk_ok hc)
theorem r_mul : OpR X (binaryOp .Mult) (rO2 X.K ca oMul) := r_int2 op_mulB fun dx dy w Q s h => by
  unfold oMul at h
  cases dx <;> cases dy <;> first
    | exact h.elim
    | (rename_i i j
       by_cases hm : mulOk i j = true
       · simp only [hm, if_true] at h
         exact ⟨_, _, rfl, rfl, hm, sat_here s h (.int _)⟩
       · simp only [hm] at h
         exact h.elim)
theorem op_fdivB : OpR X (binaryOp .FloorDiv) (rI (fun _ j => divOk j = true) fun i j => .int (i.fdiv j)) := opI fun i j _ _ _ _ _ hc q => by
  unfold divOk at hc
  rw [Bool.and_eq_true] at hc
  exact floordiv_int (of_decide_eq_true hc.1) q (.inl (PyProof.noPylong_of_log2 (of_decide_eq_true hc.2)))
theorem r_fdiv : OpR X (binaryOp .FloorDiv) (rO2 X.K ca oFdiv) := r_int2 op_fdivB fun dx dy w Q s h => by
  unfold oFdiv at h
  cases dx <;> cases dy <;> first
    | exact h.elim
    | (rename_i i j
       by_cases hm : divOk j = true
       · simp only [hm, if_true] at h
         exact ⟨_, _, rfl, rfl, hm, sat_here s h (.int _)⟩
       · simp only [hm] at h
         exact h.elim)
theorem r_mod : OpR X (binaryOp .Mod) (rO2 X.K ca oMod) := r_int2 op_modN fun dx dy w Q s h => by
  unfold oMod at h
  cases dx <;> cases dy <;> first
    | exact h.elim
    | (rename_i i j
       by_cases hm : j ≠ 0
       · simp only [if_pos hm] at h
         exact ⟨_, _, rfl, rfl, hm, sat_here s h (.int _)⟩
       · simp only [if_neg hm] at h
         exact h.elim)
theorem op_powB : OpR X (binaryOp .Pow) (rI (fun i j => powOk i j = true) fun i j => .int (i ^ j.toNat)) := opI fun _ _ _ _ _ _ _ hc q => by
  unfold powOk at hc
  rw [Bool.and_eq_true, Bool.and_eq_true] at hc
  exact pow_int_small (of_decide_eq_true hc.1) (of_decide_eq_true hc.2.1) (of_decide_eq_true hc.2.2) q
theorem r_pow : OpR X (binaryOp .Pow) (rO2 X.K ca oPow) := r_int2 op_powB fun dx dy w Q s h => by
  unfold oPow at h
  cases dx <;> cases dy <;> first
    | exact h.elim
    | (rename_i i j
       by_cases hm : powOk i j = true
       · simp only [hm, if_true] at h
         exact ⟨_, _, rfl, rfl, hm, sat_here s h (.int _)⟩
       · simp only [hm] at h
         exact h.elim)
theorem r_lt : OpR X (compareOp .Lt) (rO2 X.K ca oLt) := r_int0 op_lt fun dx dy w Q s h => by
  unfold oLt at h
  cases dx <;> cases dy <;> first | exact h.elim | exact ⟨_, _, rfl, rfl, sat_here s h (.bl _)⟩
theorem r_le : OpR X (compareOp .LtE) (rO2 X.K ca oLe) := r_int0 op_le fun dx dy w Q s h => by
  unfold oLe at h
  cases dx <;> cases dy <;> first | exact h.elim | exact ⟨_, _, rfl, rfl, sat_here s h (.bl _)⟩
theorem r_gt : OpR X (compareOp .Gt) (rO2 X.K ca oGt) := r_int0 op_gt fun dx dy w Q s h => by
  unfold oGt at h
  cases dx <;> cases dy <;> first | exact h.elim | exact ⟨_, _, rfl, rfl, sat_here s h (.bl _)⟩
theorem r_ge : OpR X (compareOp .GtE) (rO2 X.K ca oGe) := r_int0 op_ge fun dx dy w Q s h => by
  unfold oGe at h
  cases dx <;> cases dy <;> first | exact h.elim | exact ⟨_, _, rfl, rfl, sat_here s h (.bl _)⟩
theorem r_neg : UnR X (unaryOp .USub) (rO1 X.K ca oNeg) := by
  intro pins s σ H x v Q I rx h
  obtain ⟨w, dx, e, sk, r1, q⟩ := h
  subst e
  unfold oNeg at q
  cases r1 with
  | int i => exact un_neg pins s σ w.H _ v Q I rx ⟨i, rfl, sat_here sk q (.int _)⟩
  | _ => exact q.elim
theorem isNon_rep {w : Wd} {v : V} {d : D} (r : Rep X.K ca w v d) : isNon d = decide (v = .non) := by
  cases r <;> simp [isNon]
theorem isN_imp {f : Den} {W : WX} {σ : St} {H : Hp} {Q : VK} (h : tE X.K ca W (eUn oIsN f) σ H Q) : tIsN (tE X.K ca W f) σ H Q := by
  obtain ⟨w, env, e, s, m, h⟩ := h
  refine tE_bind (Qb := fun w => QV X.K ca w Q) e s m h (fun e q => QV.later e q) fun w1 d v s1 m1 r e1 h1 => ?_
  have q : QV X.K ca w1 Q (.bl (isNon d)) w1.S := h1
  rw [isNon_rep r] at q
  exact sat_here s1 q (.bl _)
theorem notN_imp {f : Den} {W : WX} {σ : St} {H : Hp} {Q : VK} (h : tE X.K ca W (eUn oNotN f) σ H Q) : tNotN (tE X.K ca W f) σ H Q := by
  obtain ⟨w, env, e, s, m, h⟩ := h
  refine tE_bind (Qb := fun w => QV X.K ca w Q) e s m h (fun e q => QV.later e q) fun w1 d v s1 m1 r e1 h1 => ?_
  have q : QV X.K ca w1 Q (.bl (!isNon d)) w1.S := h1
  rw [isNon_rep r] at q
  exact sat_here s1 q (.bl _)
variable {f : Den} {W : WX} {a : Expr} {pos pos' : Pos} {j : Nat}
theorem c_isN {j} (ha : PE X a (tE X.K ca W f)) : PC X .Is a (.Constant .none j pos') (tE X.K ca W (eUn oIsN f)) := ⟨fun pins s σ H Q I h => (pc_isN ha).run pins s σ H Q I (isN_imp h)⟩
theorem c_notN {j} (ha : PE X a (tE X.K ca W f)) : PC X .IsNot a (.Constant .none j pos') (tE X.K ca W (eUn oNotN f)) := ⟨fun pins s σ H Q I h => (pc_notN ha).run pins s σ H Q I (notN_imp h)⟩
theorem e_isN {j} (ha : PE X a (tE X.K ca W f)) : PE X (.Compare a [.Is] [.Constant .none j pos'] pos) (tE X.K ca W (eUn oIsN f)) := pe_cmp (c_isN ha)
theorem e_notN {j} (ha : PE X a (tE X.K ca W f)) : PE X (.Compare a [.IsNot] [.Constant .none j pos'] pos) (tE X.K ca W (eUn oNotN f)) := pe_cmp (c_notN ha)
theorem t_isN {j} (ha : PE X a (tE X.K ca W f)) : PT X (.Compare a [.Is] [.Constant .none j pos'] pos) (tT X.K ca W (tVal (eUn oIsN f))) := PT.imp (pt_cmp (c_isN ha)) fun _ _ _ h => val_imp h
theorem t_notN {j} (ha : PE X a (tE X.K ca W f)) : PT X (.Compare a [.IsNot] [.Constant .none j pos'] pos) (tT X.K ca W (tVal (eUn oNotN f))) := PT.imp (pt_cmp (c_notN ha)) fun _ _ _ h => val_imp h

/-! ### + -/
theorem Rep.rdL {K : PySem.W.Frag} {w : Wd} {a : Addr} {ds : List D} {v : V} (r : Rep K ca w v (.lst ds)) : ∃ a vs, v = .ref a ∧ w.H a = some (.lst vs) ∧ ¬ w.M a ∧ RepL K ca w vs ds := by
  cases r with
  | lst h n r => exact ⟨_, _, rfl, h, n, r⟩
theorem r_add : OpR X (binaryOp .Add) (rO2 X.K ca oAdd) := by
  intro pins s σ H x y v u Q I rx ry h
  obtain ⟨w, dx, dy, e, sk, r1, r2, q⟩ := h
  subst e
  unfold oAdd at q
  cases r1 with
  | int i =>
    cases r2 with
    | int j => exact op_add pins s σ w.H _ _ v u Q I rx ry ⟨i, j, rfl, rfl, sat_here sk q (.int _)⟩
    | _ => exact q.elim
  | str i =>
    cases r2 with
    | str j =>
      by_cases hl : i.length + j.length ≤ sizeLine
      · simp only [if_pos hl] at q
        exact op_add_str pins s σ w.H _ _ v u Q I rx ry ⟨i, j, rfl, rfl, hl, sat_here sk q (.str _)⟩
      · simp only [if_neg hl] at q
        exact q.elim
    | _ => exact q.elim
  | @tup a vs ds h1 ra =>
    cases r2 with
    | @tup b us es h2 rb =>
      by_cases hl : ds.length + es.length ≤ sizeLine
      · simp only [if_pos hl] at q
        have hl' : vs.length + us.length ≤ sizeLine := by rw [ra.length, rb.length]; exact hl
        refine op_catA pins s σ w.H _ _ v u Q I rx ry ⟨a, b, vs, us, rfl, rfl, h1, h2, hl', ?_⟩
        refine ⟨fun z => ?_, fun z => ?_, fun z1 z2 p hp => ?_⟩
        · subst z
          cases ra
          exact sat_here sk q (.tup h2 rb)
        · intro z2
          subst z2
          cases rb
          rw [List.append_nil] at q
          exact sat_here sk q (.tup h1 ra)
        · have x := Ext.alloc (w := w) (o := .tup (vs ++ us)) hp
          exact q ⟨upd w.H p (.tup (vs ++ us)), w.ρ, w.S⟩ rfl x (sk.alloc hp) (.ref p) (.tup (.inl (.inl upd_same)) ((ra.append rb).mono x sk))
      · simp only [if_neg hl] at q
        exact q.elim
    | _ => exact q.elim
  | _ => exact q.elim

/-! ### == -/
end
mutual
def toP : D → PyData
  | .tup xs => .tuple (toPs xs) | .lst xs => .list (toPs xs) | .non => .none | .bl b => .bool b | .int i => .int i | .str x => .str x
  | .ref _ => .none | .exc _ _ => .none | .fls _ => .none | .dct _ _ => .none
def toPs : List D → List PyData
  | [] => [] | x :: xs => toP x :: toPs xs
end
mutual
theorem eqv_toP : ∀ (a b : D), pureB a = true → pureB b = true → PyData.eqv (toP a) (toP b) = eqB a b
  | .tup xs, b, ha, hb => by
    cases b <;> first
      | (simp only [toP, PyData.eqv, eqB]; exact eqvs_toP xs _ (by simpa [pureB] using ha) (by simpa [pureB] using hb))
      | (simp [toP, PyData.eqv, eqB]; done)
      | (simp [pureB] at hb; done)
  | .lst xs, b, ha, hb => by
    cases b <;> first
      | (simp only [toP, PyData.eqv, eqB]; exact eqvs_toP xs _ (by simpa [pureB] using ha) (by simpa [pureB] using hb))
      | (simp [toP, PyData.eqv, eqB]; done)
      | (simp [pureB] at hb; done)
  | .non, b, ha, hb => by cases b <;> first | (simp [toP, PyData.eqv, eqB]; done) | (simp [pureB] at hb; done)
  | .bl x, b, ha, hb => by cases b <;> first | (simp [toP, PyData.eqv, eqB, Py.b2i]; done) | (simp [pureB] at hb; done)
  | .int i, b, ha, hb => by cases b <;> first | (simp [toP, PyData.eqv, eqB, Py.b2i]; done) | (simp [pureB] at hb; done)
  | .str z, b, ha, hb => by cases b <;> first | (simp [toP, PyData.eqv, eqB]; done) | (simp [pureB] at hb; done)
  | .ref n, b, ha, hb => by simp [pureB] at ha
  | .fls n, b, ha, hb => by simp [pureB] at ha
  | .dct _ _, b, ha, hb => by simp [pureB] at ha
  | .exc c v, b, ha, hb => by simp [pureB] at ha
theorem eqvs_toP : ∀ (a b : List D), pureL a = true → pureL b = true → PyData.eqvAll (toPs a) (toPs b) = eqL a b
  | [], b, ha, hb => by cases b <;> simp [toPs, PyData.eqvAll, eqL]
  | x :: xs, b, ha, hb => by
    cases b with
    | nil => simp [toPs, PyData.eqvAll, eqL]
    | cons y ys =>
      simp only [pureL, Bool.and_eq_true] at ha hb
      simp only [toPs, PyData.eqvAll, eqL]
      rw [eqv_toP x y ha.1 hb.1, eqvs_toP xs ys ha.2 hb.2]
end
section
variable {X : Cx} {ca : Nat → Addr}
mutual
theorem Rep.dp {w : Wd} : ∀ {v : V} {d : D}, Rep X.K ca w v d → pureB d = true → Dp X.K w.H v (toP d)
  | _, _, .non, _ => by unfold toP; exact .non
  | _, _, .bl b, _ => by unfold toP; exact .bl b
  | _, _, .int i, _ => by unfold toP; exact .int i
  | _, _, .str x, _ => by unfold toP; exact .str x
  | _, _, .tup h r, p => by unfold toP; exact .tup h (RepL.dp r (by unfold pureB at p; exact p))
  | _, _, .lst h n r, p => by unfold toP; exact .lst (.inl (.inl h)) (RepL.dp r (by unfold pureB at p; exact p))
  | _, _, .ref _, p => by unfold pureB at p; cases p
  | _, _, .fls _, p => by unfold pureB at p; cases p
  | _, _, .dct _ _ _ _, p => by unfold pureB at p; cases p
  | _, _, .exc _ _ _ _ _, p => by unfold pureB at p; cases p
theorem RepL.dp {w : Wd} : ∀ {vs : List V} {ds : List D}, RepL X.K ca w vs ds → pureL ds = true → DpAll X.K w.H vs (toPs ds)
  | _, _, .nil, _ => by unfold toPs; exact .nil
  | _, _, .cons r t, p => by
    unfold pureL at p
    rw [Bool.and_eq_true] at p
    unfold toPs
    exact .cons (Rep.dp r p.1) (RepL.dp t p.2)
end
end
mutual
theorem depth_toP : ∀ d : D, (toP d).depth ≤ depth d
  | .tup xs => by
    have := depths_toP xs
    simp only [toP, depth, PyData.depth]
    omega
  | .lst xs => by
    have := depths_toP xs
    simp only [toP, depth, PyData.depth]
    omega
  | .non => by simp [toP, PyData.depth]
  | .bl b => by simp [toP, PyData.depth]
  | .int i => by simp [toP, PyData.depth]
  | .str x => by simp [toP, PyData.depth]
  | .ref n => by simp [toP, PyData.depth]
  | .fls n => by simp [toP, PyData.depth]
  | .dct _ _ => by simp [toP, PyData.depth]
  | .exc c v => by simp [toP, PyData.depth]
theorem depths_toP : ∀ ds : List D, PyData.depthAll (toPs ds) ≤ depthL ds
  | [] => by simp [toPs, PyData.depthAll]
  | x :: xs => by
    have h1 := depth_toP x
    have h2 := depths_toP xs
    simp only [toPs, depthL, PyData.depthAll]
    omega
end
mutual
theorem lay_toP : ∀ d : D, pureB d = true → (toP d).canLay0 = true
  | .tup xs, h => by
    unfold pureB at h
    simp only [toP, PyData.canLay0]
    exact lays_toP xs h
  | .lst xs, h => by
    unfold pureB at h
    simp only [toP, PyData.canLay0]
    exact lays_toP xs h
  | .non, h => by simp [toP, PyData.canLay0]
  | .bl b, h => by simp [toP, PyData.canLay0]
  | .int i, h => by simp [toP, PyData.canLay0]
  | .str x, h => by
    unfold pureB at h
    simp only [toP, PyData.canLay0]
    exact h
  | .ref n, h => by simp [toP, PyData.canLay0]
  | .fls n, h => by simp [toP, PyData.canLay0]
  | .dct _ _, h => by simp [toP, PyData.canLay0]
  | .exc c v, h => by simp [toP, PyData.canLay0]
theorem lays_toP : ∀ ds : List D, pureL ds = true → PyData.canLayAll0 (toPs ds) = true
  | [], h => by simp [toPs, PyData.canLayAll0]
  | x :: xs, h => by
    unfold pureL at h
    rw [Bool.and_eq_true] at h
    simp only [toPs, PyData.canLayAll0, Bool.and_eq_true]
    exact ⟨lay_toP x h.1, lays_toP xs h.2⟩
end
theorem shaped_fit {d : D} (h : fit d = true) : SeqAt.shaped (toP d) = true := by
  unfold fit at h
  rw [Bool.and_eq_true] at h
  unfold SeqAt.shaped
  rw [Bool.and_eq_true]
  have := depth_toP d
  have h2 := of_decide_eq_true h.2
  exact ⟨lay_toP d h.1, decide_eq_true (by omega)⟩
section
variable {X : Cx} {ca : Nat → Addr}
mutual
theorem mapR_dp {w : Wd} {g : Nat → Option D} (hg : ∀ n d', n < w.S.length → g n = some d' → pureB d' = true → Dp X.K w.H (.ref (w.ρ n)) (toP d')) : ∀ {v : V} {d d' : D}, Rep X.K ca w v d → mapR g d = some d' → pureB d' = true → Dp X.K w.H v (toP d')
  | _, _, d', .non, e, p => by unfold mapR at e; cases e; unfold toP; exact .non
  | _, _, d', .bl b, e, p => by unfold mapR at e; cases e; unfold toP; exact .bl b
  | _, _, d', .int i, e, p => by unfold mapR at e; cases e; unfold toP; exact .int i
  | _, _, d', .str x, e, p => by unfold mapR at e; cases e; unfold toP; exact .str x
  | _, _, d', .tup (ds := ds) h r, e, p => by
    unfold mapR at e
    cases q : mapRL g ds with
    | none => rw [q] at e; cases e
    | some es =>
      rw [q] at e
      cases e
      unfold toP
      exact .tup h (mapRL_dp hg r q (by unfold pureB at p; exact p))
  | _, _, d', .lst (ds := ds) h n r, e, p => by
    unfold mapR at e
    cases q : mapRL g ds with
    | none => rw [q] at e; cases e
    | some es =>
      rw [q] at e
      cases e
      unfold toP
      exact .lst (.inl (.inl h)) (mapRL_dp hg r q (by unfold pureB at p; exact p))
  | _, _, d', .ref (n := n) hn, e, p => by
    unfold mapR at e
    exact hg n d' hn e p
  | _, _, d', .fls h, e, p => by unfold mapR at e; cases e; unfold pureB at p; cases p
  | _, _, d', .dct (ks := ks) (ds := ds) _ _ _ _, e, p => by
    unfold mapR at e
    cases q : mapRL g ds with
    | none => rw [q] at e; cases e
    | some es => rw [q] at e; cases e; unfold pureB at p; cases p
  | _, _, d', .exc (x := x) _ _ _ _ _, e, p => by
    unfold mapR at e
    cases q : mapR g x with
    | none => rw [q] at e; cases e
    | some es => rw [q] at e; cases e; unfold pureB at p; cases p
theorem mapRL_dp {w : Wd} {g : Nat → Option D} (hg : ∀ n d', n < w.S.length → g n = some d' → pureB d' = true → Dp X.K w.H (.ref (w.ρ n)) (toP d')) : ∀ {vs : List V} {ds ds' : List D}, RepL X.K ca w vs ds → mapRL g ds = some ds' → pureL ds' = true → DpAll X.K w.H vs (toPs ds')
  | _, _, ds', .nil, e, p => by unfold mapRL at e; cases e; unfold toPs; exact .nil
  | _, _, ds', .cons (d := d) (ds := ds) r t, e, p => by
    unfold mapRL at e
    cases q : mapR g d with
    | none => rw [q] at e; cases e
    | some y =>
      rw [q] at e
      cases q2 : mapRL g ds with
      | none => rw [q2] at e; cases e
      | some ys =>
        rw [q2] at e
        cases e
        unfold pureL at p
        rw [Bool.and_eq_true] at p
        unfold toPs
        exact .cons (mapR_dp hg r q p.1) (mapRL_dp hg t q2 p.2)
end
theorem resN_dp {w : Wd} (s : SOk X.K ca w) : ∀ (f n : Nat) (d' : D), n < w.S.length → resN 0 w.S f n = some d' → pureB d' = true → Dp X.K w.H (.ref (w.ρ n)) (toP d')
  | 0, n, d', hn, e, p => by
    unfold resN at e
    rw [if_neg (Nat.not_lt_zero n)] at e
    cases e
  | f + 1, n, d', hn, e, p => by
    unfold resN at e
    rw [if_neg (Nat.not_lt_zero n)] at e
    cases q : w.S[n]? with
    | none => rw [q] at e; cases e
    | some o =>
      cases o with
      | dead => rw [q] at e; cases e
      | lst xs =>
        rw [q] at e
        dsimp only at e
        obtain ⟨vs, h, r⟩ := s.live n xs q
        cases q2 : mapRL (resN 0 w.S f) xs with
        | none => rw [q2] at e; cases e
        | some ys =>
          rw [q2] at e
          cases e
          unfold toP
          exact .lst (.inl (.inl h)) (mapRL_dp (fun n d' hn e p => resN_dp s f n d' hn e p) r q2 (by unfold pureB at p; exact p))
theorem look_dp {w : Wd} {v : V} {d d' : D} (s : SOk X.K ca w) (r : Rep X.K ca w v d) (e : look d w.S = some d') (h : fit d' = true) : Dp X.K w.H v (toP d') := by
  have p : pureB d' = true := by
    unfold fit at h
    rw [Bool.and_eq_true] at h
    exact h.1
  exact mapR_dp (fun n d' hn e p => resN_dp s 9 n d' hn e p) r e p
theorem r_eq (hu : X.A.units + 64 < cLine) : OpR X (compareOp .Eq) (rO2 X.K ca oEq) := by
  intro pins s σ H x y v u Q I rx ry h
  obtain ⟨w, dx, dy, e, sk, r1, r2, q⟩ := h
  subst e
  unfold oEq at q
  cases q1 : look dx w.S with
  | none => rw [q1] at q; exact q.elim
  | some d1 =>
    rw [q1] at q
    cases q2 : look dy w.S with
    | none => rw [q2] at q; exact q.elim
    | some d2 =>
      rw [q2] at q
      dsimp only at q
      by_cases hf : (fit d1 && fit d2) = true
      · rw [if_pos hf] at q
        rw [Bool.and_eq_true] at hf
        have e1 := look_dp sk r1 q1 hf.1
        have e2 := look_dp sk r2 q2 hf.2
        refine op_eqD hu pins s σ w.H x y v u Q I rx ry ⟨_, _, e1, e2, shaped_fit hf.1, shaped_fit hf.2, ?_⟩
        rw [eqv_toP _ _ (by have z := hf.1; unfold fit at z; rw [Bool.and_eq_true] at z; exact z.1) (by have z := hf.2; unfold fit at z; rw [Bool.and_eq_true] at z; exact z.1)]
        exact sat_here sk q (.bl _)
      · rw [if_neg hf] at q
        exact q.elim
theorem r_ne (hu : X.A.units + 64 < cLine) : OpR X (compareOp .NotEq) (rO2 X.K ca oNe) := by
  intro pins s σ H x y v u Q I rx ry h
  obtain ⟨w, dx, dy, e, sk, r1, r2, q⟩ := h
  subst e
  unfold oNe at q
  cases q1 : look dx w.S with
  | none => rw [q1] at q; exact q.elim
  | some d1 =>
    rw [q1] at q
    cases q2 : look dy w.S with
    | none => rw [q2] at q; exact q.elim
    | some d2 =>
      rw [q2] at q
      dsimp only at q
      by_cases hf : (fit d1 && fit d2) = true
      · rw [if_pos hf] at q
        rw [Bool.and_eq_true] at hf
        have e1 := look_dp sk r1 q1 hf.1
        have e2 := look_dp sk r2 q2 hf.2
        refine op_neD hu pins s σ w.H x y v u Q I rx ry ⟨_, _, e1, e2, shaped_fit hf.1, shaped_fit hf.2, ?_⟩
        rw [eqv_toP _ _ (by have z := hf.1; unfold fit at z; rw [Bool.and_eq_true] at z; exact z.1) (by have z := hf.2; unfold fit at z; rw [Bool.and_eq_true] at z; exact z.1)]
        exact sat_here sk q (.bl _)
      · rw [if_neg hf] at q
        exact q.elim
end
end Py

set_option maxHeartbeats 4000000
/-! PyD: statements, targets, loops, calls, defs. -/
namespace Py
open PySem PySem.Spec PyProof.Rows L2

section
variable (K : PySem.W.Frag) (ca : Nat → Addr)
def SatS (r : RS) (w : Wd) (U : Ends) (W : WX) : Prop := match r with
  | .next e S => Aft K ca w S fun w' => ∀ σ', Sim K ca w' e σ' → U.nx σ' w'.H
  | .brk e S => Aft K ca w S fun w' => ∀ σ', Sim K ca w' e σ' → U.bk σ' w'.H
  | .cont e S => Aft K ca w S fun w' => ∀ σ', Sim K ca w' e σ' → U.ct σ' w'.H
  | .ret d S => Aft K ca w S fun w' => ∀ v, Rep K ca w' v d → U.rt v w'.H
  | .err c x e S => Aft K ca w S fun w' => ∀ σ' cls dd, Sim K ca w' e σ' → ExIn K ca w' cls dd c x → W cls dd σ' w'.H
  | .bad => False
def tS (W : WX) (F : DenS) : TS := fun U σ H => ∃ w env, w.H = H ∧ SOk K ca w ∧ Sim K ca w env σ ∧ SatS K ca (F env w.S) w U W
/-- a target -/
def tG (g : Tgt) : TG := fun v σ H Q => ∃ w env d e', w.H = H ∧ SOk K ca w ∧ Sim K ca w env σ ∧ Rep K ca w v d ∧ g d env w.S = some e' ∧ ∀ σ', Sim K ca w e' σ' → Q σ' H
/-- an iterator that walks these, while what it walks stands -/
structure ItOk (w0 : Wd) (J : It) (wk : Walk) : Prop where
  goes : ∀ i w d, Ext w0 w → SOk K ca w → wk i w.S = some (some d) → J.go i w.H
  stops : ∀ i w, Ext w0 w → SOk K ca w → wk i w.S = some none → J.stop i w.H
  yields : ∀ i w d x H', Ext w0 w → SOk K ca w → wk i w.S = some (some d) → J.yld i w.H x H' → ∃ w', w'.H = H' ∧ w'.S = w.S ∧ Ext w w' ∧ SOk K ca w' ∧ Rep K ca w' x d
def tIt (W : WX) (gi : DenI) : TI := fun σ H R => ∃ w env, w.H = H ∧ SOk K ca w ∧ Sim K ca w env σ ∧ Sat (gi env w.S) (fun wn S' => Aft K ca w S' fun w' => ∀ J, ItOk K ca w' J wn.1 → R J w'.H) (QE K ca w W σ)
end
section
variable {K : PySem.W.Frag} {ca : Nat → Addr} {w w' : Wd} {W : WX} {U U' : Ends}
theorem SatS.later {r : RS} (h : SatS K ca r w U W) (e : Ext w w') : SatS K ca r w' U W := by
  cases r with
  | bad => exact h
  | _ => exact Aft.later h e
theorem SatS.mono {r : RS} (h : SatS K ca r w U W) (hn : ∀ σ H, U.nx σ H → U'.nx σ H) (hb : ∀ σ H, U.bk σ H → U'.bk σ H) (hc : ∀ σ H, U.ct σ H → U'.ct σ H) (hr : ∀ v H, U.rt v H → U'.rt v H) : SatS K ca r w U' W := by
  cases r with
  | bad => exact h
  | next e S => exact fun w' a b c σ' m => hn _ _ (h w' a b c σ' m)
  | brk e S => exact fun w' a b c σ' m => hb _ _ (h w' a b c σ' m)
  | cont e S => exact fun w' a b c σ' m => hc _ _ (h w' a b c σ' m)
  | ret d S => exact fun w' a b c v m => hr _ _ (h w' a b c v m)
  | err c x e S => exact h
theorem ItOk.later {J : It} {wk : Walk} (h : ItOk K ca w J wk) (e : Ext w w') : ItOk K ca w' J wk :=
  ⟨fun i w2 d e2 => h.goes i w2 d (e.trans e2), fun i w2 e2 => h.stops i w2 (e.trans e2), fun i w2 d x H' e2 => h.yields i w2 d x H' (e.trans e2)⟩
end

section
variable {X : Cx} {ca : Nat → Addr} {W : WX} {pos : Pos} {f g : Den} {gs : Dens} {F G : DenS} {a b : Expr} {st : Stmt} {rest : List Stmt}

theorem s_nil : PSs X [] ((tS X.K ca W) sPass) := PSs.imp pss_nil fun U σ H ⟨w, env, e, s, m, h⟩ => by
  subst e
  exact Aft.here (w' := w) h (.refl w) s σ m
theorem s_pass : PS X (.Pass pos) ((tS X.K ca W) sPass) := PS.imp ps_pass fun U σ H ⟨w, env, e, s, m, h⟩ => by
  subst e
  exact Aft.here (w' := w) h (.refl w) s σ m
theorem s_brk : PS X (.Break pos) ((tS X.K ca W) sBrk) := PS.imp ps_break fun U σ H ⟨w, env, e, s, m, h⟩ => by
  subst e
  exact Aft.here (w' := w) h (.refl w) s σ m
theorem s_cont : PS X (.Continue pos) ((tS X.K ca W) sCont) := PS.imp ps_continue fun U σ H ⟨w, env, e, s, m, h⟩ => by
  subst e
  exact Aft.here (w' := w) h (.refl w) s σ m
theorem s_one (h : PS X st ((tS X.K ca W) F)) : PSs X [st] ((tS X.K ca W) F) := pss_one h
theorem s_cons (h1 : PS X st ((tS X.K ca W) F)) (h2 : PSs X rest ((tS X.K ca W) G)) : PSs X (st :: rest) ((tS X.K ca W) (sSeq F G)) := PSs.imp (pss_cons h1 h2) fun U σ H ⟨w, env, e, s, m, h⟩ => by
  refine ⟨w, env, e, s, m, ?_⟩
  unfold sSeq at h
  cases q : F env w.S with
  | next e1 S1 =>
    rw [q] at h
    intro w1 hS x s1 σ1 m1
    subst hS
    exact ⟨w1, e1, rfl, s1, m1, h.later x⟩
  | brk e1 S1 => rw [q] at h; exact h
  | cont e1 S1 => rw [q] at h; exact h
  | ret d S1 => rw [q] at h; exact h
  | err c x e1 S1 => rw [q] at h; exact h
  | bad => rw [q] at h; exact h

/-- from an expression's reading, what stands behind it -/
theorem tE_then {w : Wd} {env : Env} {σ : St} {H : Hp} {R : V → Hp → Prop} {U : Ends} {k : D → Store → RS} (e : w.H = H) (s : SOk X.K ca w) (m : Sim X.K ca w env σ)
    (h : SatS X.K ca (match f env w.S with | .ok d S1 => k d S1 | .err c v S1 => .err c v env S1 | .bad => .bad) w U W)
    (hr : ∀ w1 d v, SOk X.K ca w1 → Sim X.K ca w1 env σ → Rep X.K ca w1 v d → Ext w w1 → SatS X.K ca (k d w1.S) w1 U W → R v w1.H) : tE X.K ca W f σ H R := by
  refine ⟨w, env, e, s, m, ?_⟩
  cases q : f env w.S with
  | ok d S1 =>
    rw [q] at h
    intro w1 hS x s1 v r
    subst hS
    exact hr w1 d v s1 (m.mono x s) r x (h.later x)
  | err c v S1 =>
    rw [q] at h
    intro w1 hS x s1 cls dd ex
    exact h w1 hS x s1 σ cls dd (m.mono x s) ex
  | bad => rw [q] at h; exact h
theorem tT_then {t : DenT} {w : Wd} {env : Env} {σ : St} {H : Hp} {R : Bool → Hp → Prop} {U : Ends} {k : Bool → Store → RS} (e : w.H = H) (s : SOk X.K ca w) (m : Sim X.K ca w env σ)
    (h : SatS X.K ca (match t env w.S with | .ok d S1 => k d S1 | .err c v S1 => .err c v env S1 | .bad => .bad) w U W)
    (hr : ∀ w1 b, SOk X.K ca w1 → Sim X.K ca w1 env σ → Ext w w1 → SatS X.K ca (k b w1.S) w1 U W → R b w1.H) : tT X.K ca W t σ H R := by
  refine ⟨w, env, e, s, m, ?_⟩
  cases q : t env w.S with
  | ok d S1 =>
    rw [q] at h
    intro w1 hS x s1
    subst hS
    exact hr w1 d s1 (m.mono x s) x (h.later x)
  | err c v S1 =>
    rw [q] at h
    intro w1 hS x s1 cls dd ex
    exact h w1 hS x s1 σ cls dd (m.mono x s) ex
  | bad => rw [q] at h; exact h
theorem s_expr (he : PE X a ((tE X.K ca W) f)) (hs : swapsWith a none pos.line X.env = pure false := by rfl) : PS X (.Expr a pos) ((tS X.K ca W) (sExpr f)) := PS.imp (ps_expr he hs) fun U σ H ⟨w, env, e, s, m, h⟩ =>
  tE_then (k := fun _ S1 => RS.next env S1) e s m h fun w1 d v s1 m1 r x q => Aft.here (w' := w1) q (.refl w1) s1 σ m1
theorem s_doc {x j pos'} : PS X (.Expr (.Constant (.str x) j pos) pos') ((tS X.K ca W) sPass) := PS.imp ps_doc fun U σ H ⟨w, env, e, s, m, h⟩ => by
  subst e
  exact Aft.here (w' := w) h (.refl w) s σ m
theorem set_imp {i : Nat} {U : Ends} {σ : St} {H : Hp} (h : (tS X.K ca W) (sSet i f) U σ H) : (tE X.K ca W) f σ H fun x H1 => gName i x σ H1 U.nx := by
  obtain ⟨w, env, e, s, m, h⟩ := h
  exact tE_then (k := fun d S1 => RS.next (env.set i (some d)) S1) e s m h fun w1 d v s1 m1 r x q => Aft.here (w' := w1) q (.refl w1) s1 _ (m1.set i r)
theorem s_set {i : Nat} {x : Str} {pos' : Pos} (hN : X.N.Nodup) (hi : X.N[i]? = some x) (hx : Loc X.env.scope x) (he : PE X a ((tE X.K ca W) f)) (hs : swapsWith a (some (.Name x pos')) pos.line X.env = pure false := by rfl)
    (hf : X.fn x = true ∨ X.env.scope.names.lookup x = some .local := by first | exact .inl rfl | exact .inr rfl | assumption) : PS X (.Assign [.Name x pos'] a pos) ((tS X.K ca W) (sSet i f)) := PS.imp (ps_set hN hi hx he hs hf) fun U σ H h => set_imp h
/-- .. from a reading of its own (a comprehension given to a name) -/
theorem s_setOf {i : Nat} {t : TE} (h : PS X st (tAsg t (gName i))) (hw : ∀ σ H Q, (tE X.K ca W) f σ H Q → t σ H Q) : PS X st ((tS X.K ca W) (sSet i f)) := PS.imp h fun U σ H q => hw _ _ _ (set_imp q)
theorem s_ret (he : PE X a ((tE X.K ca W) f)) : PS X (.Return (some a) pos) ((tS X.K ca W) (sRet f)) := PS.imp (ps_ret he) fun U σ H ⟨w, env, e, s, m, h⟩ =>
  tE_then (k := fun d S1 => RS.ret d S1) e s m h fun w1 d v s1 m1 r x q => Aft.here (w' := w1) q (.refl w1) s1 v r
theorem s_retN : PS X (.Return none pos) ((tS X.K ca W) sRetN) := PS.imp ps_retN fun U σ H ⟨w, env, e, s, m, h⟩ => by
  subst e
  exact Aft.here (w' := w) h (.refl w) s .non .non
theorem s_if {c : Expr} {t : DenT} {p q : List Stmt} (hc : PT X c ((tT X.K ca W) t)) (ha : PSs X p ((tS X.K ca W) F)) (hb : PSs X q ((tS X.K ca W) G)) : PS X (.If c p q pos) ((tS X.K ca W) (sIf t F G)) := PS.imp (ps_if hc ha hb) fun U σ H ⟨w, env, e, s, m, h⟩ =>
  tT_then (k := fun c S1 => if c then F env S1 else G env S1) e s m h fun w1 b s1 m1 x q => by
    cases b with
    | true => exact iteT ⟨w1, env, rfl, s1, m1, q⟩
    | false => exact iteF ⟨w1, env, rfl, s1, m1, q⟩

/-! ### targets -/
theorem g_name {i : Nat} {x : Str} (hN : X.N.Nodup) (hi : X.N[i]? = some x) (hx : Loc X.env.scope x) (hf : X.fn x = true ∨ X.env.scope.names.lookup x = some .local := by first | exact .inl rfl | exact .inr rfl | assumption) : PG X (.Name x pos) ((tG X.K ca) (gNm i)) :=
  ⟨fun pins s σ H v u Q I r h => (pg_name hN hi hx hf).run pins s σ H v u Q I r (by
    obtain ⟨w, env, d, e', e, sk, m, rp, hg, q⟩ := h
    have he : e' = env.set i (some d) := (Option.some.inj hg).symm
    subst he
    exact q _ (m.set i rp))⟩
def gAll : List Tgt → List D → Env → Store → Option Env
  | [], [], e, _ => some e
  | g :: gs, d :: ds, e, S => (match g d e S with | some e1 => gAll gs ds e1 S | none => none)
  | _, _, _, _ => none
def gTup (gs : List Tgt) : Tgt := fun d e S => match d with
  | .tup xs => gAll gs xs e S
  | .lst xs => gAll gs xs e S
  | _ => none
theorem gAll_length : ∀ {gs : List Tgt} {ds : List D} {e e' : Env} {S : Store}, gAll gs ds e S = some e' → ds.length = gs.length
  | [], [], _, _, _, _ => rfl
  | [], _ :: _, _, _, _, h => by cases h
  | _ :: _, [], _, _, _, h => by cases h
  | g :: gs, d :: ds, e, e', S, h => by
    unfold gAll at h
    cases q : g d e S with
    | none => rw [q] at h; cases h
    | some e1 =>
      rw [q] at h
      rw [List.length_cons, List.length_cons, gAll_length h]
def tGs (K : PySem.W.Frag) (ca : Nat → Addr) (gs : List Tgt) : TGs := fun vs σ H Q => ∃ w env ds e', w.H = H ∧ SOk K ca w ∧ Sim K ca w env σ ∧ RepL K ca w vs ds ∧ gAll gs ds env w.S = some e' ∧ ∀ σ', Sim K ca w e' σ' → Q σ' H
theorem gs_nil : PGs X [] (tGs X.K ca []) := ⟨fun pins s σ H vs us Q I r h => pgs_nil.run pins s σ H vs us Q I r (by
  obtain ⟨w, env, ds, e', e, sk, m, rp, hg, q⟩ := h
  cases rp with
  | nil =>
    have he : e' = env := (Option.some.inj hg).symm
    subst he
    exact ⟨rfl, q _ m⟩
  | cons _ _ => cases hg)⟩
theorem gs_cons {t : Tgt} {ts : List Tgt} {es : List Expr} (h1 : PG X a ((tG X.K ca) t)) (h2 : PGs X es (tGs X.K ca ts))
    (hs : (assignEach (a :: es) X.env).map (·.2) = assign a X.env :: (assignEach es X.env).map (·.2) := by rfl) : PGs X (a :: es) (tGs X.K ca (t :: ts)) :=
  ⟨fun pins s σ H vs us Q I r h => (pgs_cons h1 h2 hs).run pins s σ H vs us Q I r (by
    obtain ⟨w, env, ds, e', e, sk, m, rp, hg, q⟩ := h
    cases rp with
    | nil => cases hg
    | @cons v d vs ds rv rt =>
      refine ⟨v, vs, rfl, ?_⟩
      unfold gAll at hg
      cases z : t d env w.S with
      | none => rw [z] at hg; cases hg
      | some e1 =>
        rw [z] at hg
        exact ⟨w, env, d, e1, e, sk, m, rv, z, fun σ1 m1 => ⟨w, e1, ds, e', e, sk, m1, rt, hg, q⟩⟩)⟩
theorem g_tup {ts : List Tgt} {es : List Expr} {k : Nat} (hc : X.calm = true) (h : PGs X es (tGs X.K ca ts)) (hl : ts.length = es.length := by rfl)
    (hn : (assignEach es X.env).length = es.length := by rfl) (hst : (assignEach es X.env).findIdx? (·.1) = none := by rfl) : PG X (.Tuple es k pos) ((tG X.K ca) (gTup ts)) :=
  ⟨fun pins s σ H v u Q I r h0 => by
    obtain ⟨w, env, d, e', e, sk, m, rp, hg, q⟩ := h0
    subst e
    cases rp with
    | @tup a vs ds hq ra =>
      have hlen := gAll_length hg
      exact (pg_tup hc h (n := es.length) hn hst).run pins s σ w.H _ u Q I r ⟨a, vs, rfl, hq, by rw [ra.length, hlen, hl], ⟨w, env, ds, e', rfl, sk, m, ra, hg, q⟩⟩
    | @lst a vs ds hq hM ra =>
      have hlen := gAll_length hg
      exact (pg_lst hc h (n := es.length) hn hst).run pins s σ w.H _ u Q I r ⟨a, vs, rfl, .inl (.inl hq), by rw [ra.length, hlen, hl], ⟨w, env, ds, e', rfl, sk, m, ra, hg, q⟩⟩
    | _ => cases hg⟩
/-- target = value -/
def sAsg (g : Tgt) (f : Den) : DenS := fun e S => match f e S with
  | .ok d S1 => (match g d e S1 with | some e1 => .next e1 S1 | none => .bad)
  | .err c v S1 => .err c v e S1
  | .bad => .bad
theorem s_asg {tg : Expr} {t : Tgt} (he : PE X a ((tE X.K ca W) f)) (hg : PG X tg ((tG X.K ca) t)) (hs : swapsWithSole [tg] a pos.line X.env = pure false := by rfl) (hw : swappedStores [tg] a X.env = pure none := by rfl)
    (h1 : (assignEach [tg] X.env).map (·.2) = [assign tg X.env] := by rfl) : PS X (.Assign [tg] a pos) ((tS X.K ca W) (sAsg t f)) := PS.imp (ps_asg he hg hs hw h1) fun U σ H ⟨w, env, e, s, m, h⟩ =>
  tE_then (k := fun d S1 => match t d env S1 with | some e1 => RS.next e1 S1 | none => RS.bad) e s m h fun w1 d v s1 m1 r x q => by
    cases z : t d env w1.S with
    | none => rw [z] at q; exact q.elim
    | some e1 =>
      rw [z] at q
      exact ⟨w1, env, d, e1, rfl, s1, m1, r, z, fun σ' m' => Aft.here (w' := w1) q (.refl w1) s1 σ' m'⟩
/-- a, b = x, y -/
def sPar (i j : Nat) (f g : Den) : DenS := fun e S => match f e S with
  | .ok d S1 => (match g e S1 with | .ok d2 S2 => .next ((e.set i (some d)).set j (some d2)) S2 | .err c v S2 => .err c v e S2 | .bad => .bad)
  | .err c v S1 => .err c v e S1
  | .bad => .bad
theorem s_par {i j : Nat} {x y : Str} {px py pt : Pos} {kt k2 pt2} (hc : X.calm = true) (hN : X.N.Nodup) (hi : X.N[i]? = some x) (hj : X.N[j]? = some y) (hij : i ≠ j)
    (hx : X.env.scope.names.lookup x = some .local) (hy : X.env.scope.names.lookup y = some .local) (ha : PE X a ((tE X.K ca W) f)) (hb : PE X b ((tE X.K ca W) g))
    (hw : swappedStores [.Tuple [.Name x px, .Name y py] kt pt] (.Tuple [a, b] k2 pt2) X.env = pure (some [x, y])) (hst : starEach [a, b] X.env = (false, eval a X.env) :: starEach [b] X.env := by rfl) (hst2 : starEach [b] X.env = (false, eval b X.env) :: starEach [] X.env := by rfl)
    (hs : swapsWithSole [.Tuple [.Name x px, .Name y py] kt pt] (.Tuple [a, b] k2 pt2) pos.line X.env = pure false := by rfl) :
    PS X (.Assign [.Tuple [.Name x px, .Name y py] kt pt] (.Tuple [a, b] k2 pt2) pos) ((tS X.K ca W) (sPar i j f g)) :=
  PS.imp (ps_par hc hN hi hj hij hx hy (pa_cons ha (pa_cons hb pa_nil hst2) hst) hw hs) fun U σ H ⟨w, env, e, s, m, h⟩ =>
    tE_then (k := fun d S1 => match g env S1 with | .ok d2 S2 => RS.next ((env.set i (some d)).set j (some d2)) S2 | .err c v S2 => RS.err c v env S2 | .bad => RS.bad) e s m h fun w1 d v s1 m1 r x q =>
      tE_then (f := g) (k := fun d2 S2 => RS.next ((env.set i (some d)).set j (some d2)) S2) rfl s1 m1 q fun w2 d2 v2 s2 m2 r2 x2 q2 =>
        ⟨v, v2, rfl, Aft.here (w' := w2) q2 (.refl w2) s2 _ ((m2.set i (r.mono x2 s1)).set j r2)⟩

/-! ### what a loop walks -/
theorem itl_ok {w : Wd} {a : Addr} {vs : List V} {ds : List D} (s : SOk X.K ca w) (h : w.H a = some (.lst vs)) (n : ¬ w.M a) (r : RepL X.K ca w vs ds) : ItOk X.K ca w (Itl X.K a) (wkL ds) where
  goes := fun i w2 d e s2 hi => by
    obtain ⟨v, hv, _⟩ := r.get (Option.some.inj hi)
    exact ⟨vs, v, .inl (.inl (e.keep _ _ h n)), hv⟩
  stops := fun i w2 e s2 hi => ⟨vs, .inl (.inl (e.keep _ _ h n)), by rw [r.length]; exact List.getElem?_eq_none_iff.mp (Option.some.inj hi)⟩
  yields := fun i w2 d x H' e s2 hi y => by
    obtain ⟨e1, y⟩ := y
    have q := y vs (.inl (.inl (e.keep _ _ h n)))
    obtain ⟨d', hd, rd⟩ := r.getV q
    have ed : some d' = some d := hd.symm.trans (Option.some.inj hi)
    cases ed
    exact ⟨w2, e1.symm, rfl, .refl w2, s2, rd.mono e s⟩
theorem itt_ok {w : Wd} {a : Addr} {vs : List V} {ds : List D} (s : SOk X.K ca w) (h : SqT X.K w.H a vs) (r : RepL X.K ca w vs ds) : ItOk X.K ca w (Itt X.K a) (wkL ds) where
  goes := fun i w2 d e s2 hi => by
    obtain ⟨v, hv, _⟩ := r.get (Option.some.inj hi)
    exact ⟨vs, v, e.sqT s h, hv⟩
  stops := fun i w2 e s2 hi => ⟨vs, e.sqT s h, by rw [r.length]; exact List.getElem?_eq_none_iff.mp (Option.some.inj hi)⟩
  yields := fun i w2 d x H' e s2 hi y => by
    obtain ⟨e1, y⟩ := y
    have q := y vs (e.sqT s h)
    obtain ⟨d', hd, rd⟩ := r.getV q
    have ed : some d' = some d := hd.symm.trans (Option.some.inj hi)
    cases ed
    exact ⟨w2, e1.symm, rfl, .refl w2, s2, rd.mono e s⟩
theorem fls_sq {K : PySem.W.Frag} {H : Hp} {a : Addr} {vs : List V} (h : (∃ o, H a = some (.frz o (.lst vs))) ∨ ∃ (o : Obj) (its : Array Value) (n : Nat), K.lookup a = some o ∧ o.cls = .type "list" ∧ o.dict = none ∧ o.data = .seq its n ∧ its.size ≤ sizeLine ∧ Vals vs its.toList) : SqL K H a vs := h.elim (fun ⟨o, q⟩ => .inl (.inr ⟨o, q⟩)) .inr
theorem repL_ints {K : PySem.W.Frag} {ca : Nat → Addr} {w : Wd} : ∀ is : List Int, RepL K ca w (is.map V.int) (is.map D.int)
  | [] => .nil
  | i :: is => .cons (.int i) (repL_ints is)
theorem itf_ok {w : Wd} {a : Addr} {is : List Int} (s : SOk X.K ca w) (h : (∃ o, w.H a = some (.frz o (.lst (is.map V.int)))) ∨ ∃ (o : Obj) (its : Array Value) (n : Nat), X.K.lookup a = some o ∧ o.cls = .type "list" ∧ o.dict = none ∧ o.data = .seq its n ∧ its.size ≤ sizeLine ∧ Vals (is.map V.int) its.toList) : ItOk X.K ca w (Itl X.K a) (wkL (is.map D.int)) := by
  have kp : ∀ w2, Ext w w2 → SqL X.K w2.H a (is.map V.int) := fun w2 e => by
    rcases h with ⟨o, q⟩ | q
    · exact .inl (.inr ⟨o, e.keep _ _ q (s.notM q fun _ z => by cases z)⟩)
    · exact .inr q
  exact {
    goes := fun i w2 d e s2 hi => by
      obtain ⟨v, hv, _⟩ := (repL_ints (K := X.K) (ca := ca) (w := w) is).get (Option.some.inj hi)
      exact ⟨_, v, kp w2 e, hv⟩
    stops := fun i w2 e s2 hi => ⟨_, kp w2 e, by rw [(repL_ints (K := X.K) (ca := ca) (w := w) is).length]; exact List.getElem?_eq_none_iff.mp (Option.some.inj hi)⟩
    yields := fun i w2 d x H' e s2 hi y => by
      obtain ⟨e1, y⟩ := y
      have q := y _ (kp w2 e)
      obtain ⟨d', hd, rd⟩ := (repL_ints (K := X.K) (ca := ca) (w := w) is).getV q
      have ed : some d' = some d := hd.symm.trans (Option.some.inj hi)
      cases ed
      exact ⟨w2, e1.symm, rfl, .refl w2, s2, rd.mono e s⟩ }
theorem wkR_of {n i : Nat} {S : Store} {o : Option D} (h : wkR n i S = some o) : ∃ xs, S[n]? = some (.lst xs) ∧ xs[i]? = o := by
  unfold wkR at h
  cases q : S[n]? with
  | none => rw [q] at h; cases h
  | some u =>
    cases u with
    | dead => rw [q] at h; cases h
    | lst xs => rw [q] at h; exact ⟨xs, rfl, Option.some.inj h⟩
theorem itref_ok {w : Wd} {n : Nat} (hn : n < w.S.length) : ItOk X.K ca w (Itl X.K (w.ρ n)) (wkR n) where
  goes := fun i w2 d e s2 hi => by
    obtain ⟨xs, hS, hx⟩ := wkR_of hi
    obtain ⟨vs, hv, r⟩ := s2.live n xs hS
    rw [e.rho n hn] at hv
    obtain ⟨v, hv2, _⟩ := r.get hx
    exact ⟨vs, v, .inl (.inl hv), hv2⟩
  stops := fun i w2 e s2 hi => by
    obtain ⟨xs, hS, hx⟩ := wkR_of hi
    obtain ⟨vs, hv, r⟩ := s2.live n xs hS
    rw [e.rho n hn] at hv
    exact ⟨vs, .inl (.inl hv), by rw [r.length]; exact List.getElem?_eq_none_iff.mp hx⟩
  yields := fun i w2 d x H' e s2 hi y => by
    obtain ⟨e1, y⟩ := y
    obtain ⟨xs, hS, hx⟩ := wkR_of hi
    obtain ⟨vs, hv, r⟩ := s2.live n xs hS
    rw [e.rho n hn] at hv
    have q := y vs (.inl (.inl hv))
    obtain ⟨d', hd, rd⟩ := r.getV q
    have ed : some d' = some d := hd.symm.trans hx
    cases ed
    exact ⟨w2, e1.symm, rfl, .refl w2, s2, rd⟩
theorem i_seq {tg : Expr} (ha : PE X a ((tE X.K ca W) f)) : PI X tg a (tIt X.K ca W (dSeq f)) := by
  refine ⟨fun pins s σ H R I h => ?_⟩
  obtain ⟨w, env, e, sk, m, h⟩ := h
  subst e
  have h' := Sat.bind h
  cases q : f env w.S with
  | bad => rw [q] at h'; exact h'.elim
  | err c v S1 =>
    rw [q] at h'
    exact (pi_list ha).run pins s σ w.H R I ⟨w, env, rfl, sk, m, by rw [q]; exact h'⟩
  | ok d S1 =>
    rw [q] at h'
    cases d with
    | lst xs =>
      refine (pi_list ha).run pins s σ w.H R I ⟨w, env, rfl, sk, m, ?_⟩
      rw [q]
      intro w1 hS x s1 v r
      cases r with
      | @lst a vs ds hq hM ra => exact ⟨a, rfl, ⟨vs, .inl (.inl hq)⟩, h' w1 hS x s1 _ (itl_ok s1 hq hM ra)⟩
    | fls is =>
      refine (pi_list ha).run pins s σ w.H R I ⟨w, env, rfl, sk, m, ?_⟩
      rw [q]
      intro w1 hS x s1 v r
      cases r with
      | @fls a is hq => exact ⟨a, rfl, ⟨is.map V.int, fls_sq hq⟩, h' w1 hS x s1 _ (itf_ok s1 hq)⟩
    | ref n =>
      refine (pi_list ha).run pins s σ w.H R I ⟨w, env, rfl, sk, m, ?_⟩
      rw [q]
      intro w1 hS x s1 v r
      subst hS
      cases r with
      | ref hn =>
        change Sat (match w1.S[n]? with | some (.lst xs) => Py.R.ok (wkR n, xs.length) w1.S | _ => Py.R.bad) _ _ at h'
        cases z : w1.S[n]? with
        | none => rw [z] at h'; exact h'.elim
        | some o =>
          cases o with
          | dead => rw [z] at h'; exact h'.elim
          | lst xs =>
            rw [z] at h'
            obtain ⟨vs, hv, _⟩ := s1.live n xs z
            exact ⟨_, rfl, ⟨vs, .inl (.inl hv)⟩, h' w1 rfl x s1 _ (itref_ok hn)⟩
    | tup xs =>
      refine (pi_tup ha).run pins s σ w.H R I ⟨w, env, rfl, sk, m, ?_⟩
      rw [q]
      intro w1 hS x s1 v r
      cases r with
      | @tup a vs ds hq ra => exact ⟨a, rfl, ⟨vs, hq⟩, h' w1 hS x s1 _ (itt_ok s1 hq ra)⟩
    | _ => exact h'.elim
theorem itr_ok {w : Wd} {lo : Int} {n : Nat} : ItOk X.K ca w (Itr lo n) (wkL (intsD lo n)) where
  goes := fun i w2 d e s2 hi => by
    have q := List.getElem?_eq_some_iff.mp (Option.some.inj hi)
    obtain ⟨q, _⟩ := q
    rw [intsD_length] at q
    exact q
  stops := fun i w2 e s2 hi => by
    have q := List.getElem?_eq_none_iff.mp (Option.some.inj hi)
    rw [intsD_length] at q
    exact q
  yields := fun i w2 d x H' e s2 hi y => by
    obtain ⟨e1, y⟩ := y
    subst y
    obtain ⟨q, _⟩ := List.getElem?_eq_some_iff.mp (Option.some.inj hi)
    rw [intsD_length] at q
    have ed : some (D.int (lo + (i : Int))) = some d := (intsD_get lo n i q).symm.trans (Option.some.inj hi)
    cases ed
    exact ⟨w2, e1.symm, rfl, .refl w2, s2, .int _⟩
theorem i_rng1 {tg : Expr} {p : Pos} (hg : Gl X "range") (hm : X.mg "range" = none) (ha : PE X a ((tE X.K ca W) f)) (hs : starEach [a] X.env = [(false, eval a X.env)] := by rfl) : PI X tg (.Call (.Name "range" p) [a] [] pos) (tIt X.K ca W (dRng1 f)) := by
  refine ⟨fun pins s σ H R I h => (pi_range1 hg hm (pa_cons ha pa_nil hs) hs).run pins s σ H R I ?_⟩
  obtain ⟨w, env, e, sk, m, h⟩ := h
  refine ⟨w, env, e, sk, m, (Sat.bind h).mono (fun d S1 q => ?_) fun _ _ _ q => q⟩
  intro w1 hS x s1 v r
  cases r with
  | int j =>
    by_cases hj : inR j = true
    · simp only [hj, if_true] at q
      obtain ⟨h1, h2⟩ := inR_ok hj
      exact ⟨j, rfl, h1, h2, q w1 hS x s1 _ itr_ok⟩
    · simp only [hj] at q
      exact q.elim
  | _ => exact q.elim
theorem i_rng2 {tg : Expr} {p : Pos} (hg : Gl X "range") (hm : X.mg "range" = none) (ha : PE X a ((tE X.K ca W) f)) (hb : PE X b ((tE X.K ca W) g)) (hs : starEach [a, b] X.env = [(false, eval a X.env), (false, eval b X.env)] := by rfl) (hs2 : starEach [b] X.env = [(false, eval b X.env)] := by rfl) :
    PI X tg (.Call (.Name "range" p) [a, b] [] pos) (tIt X.K ca W (dRng2 f g)) := by
  refine ⟨fun pins s σ H R I h => (pi_range2 hg hm (pa_cons ha (pa_cons hb pa_nil hs2) (by rw [hs, hs2])) hs hs2).run pins s σ H R I ?_⟩
  obtain ⟨w, env, e, sk, m, h⟩ := h
  refine tE_bind (Qb := fun w => fun (wn : Walk × Nat) S' => Aft X.K ca w S' fun w' => ∀ J, ItOk X.K ca w' J wn.1 → R J w'.H) e sk m h (fun e q => q.later e) fun w1 d v s1 m1 r e1 h1 => ?_
  refine tE_bind (Qb := fun w => fun (wn : Walk × Nat) S' => Aft X.K ca w S' fun w' => ∀ J, ItOk X.K ca w' J wn.1 → R J w'.H) rfl s1 m1 h1 (fun e q => q.later e) fun w2 d2 v2 s2 m2 r2 e2 h2 => ?_
  cases r with
  | int i =>
    cases r2 with
    | int j =>
      by_cases hj : (inR i && inR j) = true
      · simp only [hj, if_true] at h2
        rw [Bool.and_eq_true] at hj
        obtain ⟨h1, h3⟩ := inR_ok hj.1
        obtain ⟨h4, h5⟩ := inR_ok hj.2
        exact ⟨i, j, rfl, ⟨h1, h3, h4, h5⟩, Aft.here (w' := w2) h2 (.refl w2) s2 _ itr_ok⟩
      · simp only [hj] at h2
        exact h2.elim
    | _ => exact h2.elim
  | _ => exact h2.elim

/-! ### for, while -/
theorem s_for {tg iter : Expr} {body : List Stmt} {gi : DenI} {t : Tgt} (hp : PassesOwn (model X.prog X.w) X.A X.env X.xe) (hc : X.calm = true) (hi : PI X tg iter (tIt X.K ca W gi)) (hg : PG X tg ((tG X.K ca) t)) (hb : PSs X body ((tS X.K ca W) F))
    (hs : ∀ x, foldedSetIterable iter X.env x = pure x := by intro _; rfl) : PS X (.For tg iter body [] pos) ((tS X.K ca W) (sFor t gi F)) := PS.imp (ps_for hp hc hi hg hb hs) fun U σ H ⟨w, env, e, s, m, h⟩ => by
  refine ⟨w, env, e, s, m, ?_⟩
  unfold sFor at h
  cases q : gi env w.S with
  | bad => rw [q] at h; exact h
  | err c v S1 =>
    rw [q] at h
    intro w1 hS x s1 cls dd ex
    exact h w1 hS x s1 σ cls dd (m.mono x s) ex
  | ok wn S1 =>
    obtain ⟨wk, n⟩ := wn
    rw [q] at h
    dsimp only at h
    intro w1 hS x1 s1 J hJ
    subst hS
    refine ⟨fun i k σ H => ∃ w2 env2, w2.H = H ∧ Ext w1 w2 ∧ SOk X.K ca w2 ∧ Sim X.K ca w2 env2 σ ∧ SatS X.K ca (forW t F wk k i env2 w2.S) w2 U W,
      ⟨n, w1, env, rfl, .refl w1, s1, m.mono x1 s, h.later x1⟩, ?_⟩
    rintro i k σ2 H2 ⟨w2, env2, rfl, x2, s2, m2, h2⟩
    cases k with
    | zero =>
      unfold forW at h2
      cases z : wk i w2.S with
      | none => rw [z] at h2; exact h2.elim
      | some o =>
        cases o with
        | some d => rw [z] at h2; exact h2.elim
        | none =>
          rw [z] at h2
          exact .inl ⟨hJ.stops i w2 x2 s2 z, Aft.here (w' := w2) h2 (.refl w2) s2 _ m2⟩
    | succ k =>
      unfold forW at h2
      cases z : wk i w2.S with
      | none => rw [z] at h2; exact h2.elim
      | some o =>
        cases o with
        | none =>
          rw [z] at h2
          exact .inl ⟨hJ.stops i w2 x2 s2 z, Aft.here (w' := w2) h2 (.refl w2) s2 _ m2⟩
        | some d =>
          rw [z] at h2
          dsimp only at h2
          refine .inr ⟨hJ.goes i w2 d x2 s2 z, fun σ' H' => ∃ w3 env3, w3.H = H' ∧ Ext w1 w3 ∧ SOk X.K ca w3 ∧ Sim X.K ca w3 env3 σ' ∧ SatS X.K ca (forW t F wk k (i + 1) env3 w3.S) w3 U W,
            fun σ' H' z => ⟨k, Nat.lt_succ_self k, z⟩, fun v H' y => ?_⟩
          obtain ⟨w3, eH, eS, x3, s3, rd⟩ := hJ.yields i w2 d v H' x2 s2 z y
          rw [← eS] at h2
          cases zt : t d env2 w3.S with
          | none => rw [zt] at h2; exact h2.elim
          | some e1 =>
            rw [zt] at h2
            dsimp only at h2
            refine ⟨w3, env2, d, e1, eH, s3, m2.mono x3 s2, rd, zt, fun σ3 m3 => ⟨w3, e1, eH, s3, m3, ?_⟩⟩
            cases zb : F e1 w3.S with
            | bad => rw [zb] at h2; exact h2.elim
            | next e2 S2 =>
              rw [zb] at h2
              intro w4 hS x4 s4 σ4 m4
              subst hS
              exact ⟨w4, e2, rfl, x2.trans (x3.trans x4), s4, m4, SatS.later h2 (x3.trans x4)⟩
            | cont e2 S2 =>
              rw [zb] at h2
              intro w4 hS x4 s4 σ4 m4
              subst hS
              exact ⟨w4, e2, rfl, x2.trans (x3.trans x4), s4, m4, SatS.later h2 (x3.trans x4)⟩
            | brk e2 S2 =>
              rw [zb] at h2
              exact Aft.later h2 x3
            | ret d2 S2 =>
              rw [zb] at h2
              exact Aft.later h2 x3
            | err c x e2 S2 =>
              rw [zb] at h2
              exact Aft.later h2 x3
theorem s_while {c : Expr} {body : List Stmt} {t : DenT} (hp : PassesOwn (model X.prog X.w) X.A X.env X.xe) (hc : PT X c ((tT X.K ca W) t)) (hb : PSs X body ((tS X.K ca W) F)) : PS X (.While c body [] pos) ((tS X.K ca W) (sWhile t F)) :=
  PS.imp (ps_while hp hc hb) fun U σ H ⟨w, env, e, s, m, h⟩ => by
    have hn : sWhile t F env w.S ≠ .bad := fun z => by rw [z] at h; exact h
    obtain ⟨n, hn⟩ := sWhile_some hn
    rw [← hn] at h
    refine ⟨fun k σ H => ∃ w2 env2, w2.H = H ∧ SOk X.K ca w2 ∧ Sim X.K ca w2 env2 σ ∧ SatS X.K ca (whileN t F k env2 w2.S) w2 U W, ⟨n, w, env, e, s, m, h⟩, ?_⟩
    rintro k σ2 H2 ⟨w2, env2, rfl, s2, m2, h2⟩
    cases k with
    | zero => exact h2.elim
    | succ k =>
      unfold whileN at h2
      refine ⟨w2, env2, rfl, s2, m2, ?_⟩
      cases z : t env2 w2.S with
      | bad => rw [z] at h2; exact h2
      | err c v S1 =>
        rw [z] at h2
        intro w3 hS x s3 cls dd ex
        exact h2 w3 hS x s3 σ2 cls dd (m2.mono x s2) ex
      | ok b S1 =>
        rw [z] at h2
        intro w3 hS x3 s3
        subst hS
        cases b with
        | false => exact iteF (Aft.here (w' := w3) h2 x3 s3 _ (m2.mono x3 s2))
        | true =>
          refine iteT ⟨fun σ' H' => ∃ w4 env4, w4.H = H' ∧ SOk X.K ca w4 ∧ Sim X.K ca w4 env4 σ' ∧ SatS X.K ca (whileN t F k env4 w4.S) w4 U W, fun σ' H' z => ⟨k, Nat.lt_succ_self k, z⟩, w3, env2, rfl, s3, m2.mono x3 s2, ?_⟩
          simp only at h2
          cases zb : F env2 w3.S with
          | bad => rw [zb] at h2; exact h2.elim
          | next e2 S2 =>
            rw [zb] at h2
            intro w4 hS x4 s4 σ4 m4
            subst hS
            exact ⟨w4, e2, rfl, s4, m4, SatS.later h2 (x3.trans x4)⟩
          | cont e2 S2 =>
            rw [zb] at h2
            intro w4 hS x4 s4 σ4 m4
            subst hS
            exact ⟨w4, e2, rfl, s4, m4, SatS.later h2 (x3.trans x4)⟩
          | brk e2 S2 =>
            rw [zb] at h2
            exact Aft.later h2 x3
          | ret d2 S2 =>
            rw [zb] at h2
            exact Aft.later h2 x3
          | err c x e2 S2 =>
            rw [zb] at h2
            exact Aft.later h2 x3

/-! ### calls -/
/-- the promise of the def number i with n parameters -/
def spF (K : PySem.W.Frag) (ca : Nat → Addr) (Γ : Calls) (i n : Nat) : Sp := fun vs H Q E => ∃ w ds, w.H = H ∧ vs.length = n ∧ SOk K ca w ∧ RepL K ca w vs ds ∧ Sat (Γ i ds w.S) (QV K ca w Q) fun c x S => Aft K ca w S fun w' => ∀ cls dd, ExIn K ca w' cls dd c x → E cls dd w'.H
theorem e_call {Γ : Calls} {i n k : Nat} {fa : Addr} {fd : FuncData} {ps : List Str} {x : Str} {p : Pos} {es : List Expr} (Fn : FnOk X.prog X.w X.K X.mg X.base (L2.CX X.prog X.w) k fa fd ps (spF X.K ca Γ i n)) (hr : Room k X.A) (hg : Gl X x) (hm : X.mg x = some (.ref fa))
    (hk : PySem.W.keepIn X.K (.ref fa) = true) (hb : Binds X.K fd ps []) (tk : Takes X W) (ha : PA X (a :: es) ((tEs X.K ca W) gs)) (hl : Len gs n) (hdb : (x == ("__debug__" : Str)) = false := by decide)
    (he : starEach (a :: es) X.env = (false, eval a X.env) :: starEach es X.env := by rfl) (hpl : (backTo pos (starEach es X.env)).any (·.1) = false := by rfl) : PE X (.Call (.Name x p) (a :: es) [] pos) ((tE X.K ca W) (eCall Γ i gs)) :=
  PE.imp (pe_callS Fn hr hg hm hk hb (fun σ => passAt tk σ) ha hdb he hpl) fun σ H Q ⟨w, env, e, s, m, h⟩ => by
    have hlen : ∀ ds S', gs env w.S = .ok ds S' → ds.length = n := fun ds S' q => hl _ _ _ _ q
    refine ⟨w, env, e, s, m, ?_⟩
    unfold eCall at h
    cases q : gs env w.S with
    | bad => rw [q] at h; exact h
    | err c v S1 => rw [q] at h; exact h
    | ok ds S1 =>
      rw [q] at h
      intro w1 hS x1 s1 vs r
      subst hS
      exact ⟨w1, ds, rfl, by rw [r.length, hlen _ _ q], s1, r, h.mono (fun d S z => QV.later x1 z) fun c v S z => Aft.later z x1⟩
theorem e_call0 {Γ : Calls} {i k : Nat} {fa : Addr} {fd : FuncData} {ps : List Str} {x : Str} {p : Pos} (Fn : FnOk X.prog X.w X.K X.mg X.base (L2.CX X.prog X.w) k fa fd ps (spF X.K ca Γ i 0)) (hr : Room k X.A) (hg : Gl X x) (hm : X.mg x = some (.ref fa))
    (hk : PySem.W.keepIn X.K (.ref fa) = true) (hb : Binds X.K fd ps []) (tk : Takes X W) (hdb : (x == ("__debug__" : Str)) = false := by decide) : PE X (.Call (.Name x p) [] [] pos) ((tE X.K ca W) (eCall Γ i dNil)) := by
  refine ⟨fun pins s σ H Q I h => ?_⟩
  obtain ⟨w, env, e, sk, m, h⟩ := h
  refine wpAny_Call_Name_kw (ld_glob I hg hm ?_ hdb)
  refine PySem.W.callWith_K0 I.kIn hk (run_fnS (us := []) (vs := []) Fn hr hb (passAt tk σ) I .nil ?_)
  exact ⟨w, [], e, rfl, sk, .nil, h⟩
end

/-- a def of the text, by its body -/
theorem fn_body {P : Program} {w : World} {K : PySem.W.Frag} {ca : Nat → Addr} {mg : Str → Option Value} {base : Heap} {x qual : Str} {params : Arguments} {body : List Stmt} {scope : Scope} {dvs : List V} {kws : List (Str × V)} {f : Addr} {fd : FuncData} {N ps : List Str} {k i : Nat} {Γ' : Calls} {F : DenS}
    (Fd : FunD K x qual params body scope dvs kws f fd) (S : FnScope N ps scope) (hΓ : ∀ args St, args.length = ps.length → Γ' i args St = runBody F N.length args St)
    (hb : ∀ (cdv : Value) (A : Around) (outer : List PySem.Env) (s : Shared) (H : Hp) (E : XK), Room k (A.deeper (envOfC qual scope s.heap.objs.size f cdv)) →
      PSs (cxOf (L2.CX P w) P w K mg base N qual scope f cdv A outer s H E) body (tS K ca (fun cls d _ H => E cls d H) F)) :
    FnOk P w K mg base (L2.CX P w) (k + 1) f fd ps (spF K ca Γ' i ps.length) := by
  refine Fd.ok S (fun vs H Q E h => ?_) (fun cdv A outer s H vs Q E hr h => ?_)
  · obtain ⟨_, _, _, hl, _⟩ := h
    exact hl
  · obtain ⟨w0, ds, e, hl, sk, r, h⟩ := h
    refine ⟨tS K ca (fun cls d _ H => E cls d H) F, hb cdv A outer s H E hr, ?_⟩
    have hpl : ps.length ≤ N.length := by have := congrArg List.length S.pre; rw [List.length_take] at this; omega
    have hd : ds.length = ps.length := by rw [← r.length]; exact hl
    rw [hΓ ds w0.S hd] at h
    refine ⟨w0, ds.map some ++ List.replicate (N.length - ds.length) none, e, sk, ⟨?_, fun j d q => ?_⟩, ?_⟩
    · unfold L2.start
      rw [List.length_append, List.length_append, List.length_map, List.length_map, List.length_replicate, List.length_replicate, r.length]
    · unfold L2.start
      have hlen := r.length
      by_cases hj : j < ds.length
      · rw [List.getElem?_append_left (by simpa using hj), List.getElem?_map] at q
        cases z : ds[j]? with
        | none => rw [z] at q; cases q
        | some d' =>
          rw [z] at q
          have e2 : d' = d := by simpa using q
          subst e2
          obtain ⟨v, hv, rv⟩ := r.get z
          refine ⟨v, ?_, rv⟩
          rw [List.getElem?_append_left (by rw [List.length_map, hlen]; exact hj), List.getElem?_map, hv]
          rfl
      · rw [List.getElem?_append_right (by simpa using hj), List.getElem?_replicate] at q
        split at q <;> cases q
    · unfold runBody at h
      cases z : F (ds.map some ++ List.replicate (N.length - ds.length) none) w0.S with
      | next e1 S1 =>
        rw [z] at h
        exact fun w1 hS x1 s1 σ' m1 => h w1 hS x1 s1 .non .non
      | ret d S1 => rw [z] at h; exact h
      | err c v e1 S1 =>
        rw [z] at h
        exact fun w1 hS x1 s1 σ' cls dd m1 ex => h w1 hS x1 s1 cls dd ex
      | brk e1 S1 => rw [z] at h; exact h.elim
      | cont e1 S1 => rw [z] at h; exact h.elim
      | bad => rw [z] at h; exact h.elim
end Py

set_option maxHeartbeats 4000000
/-! PyE: exceptions: raised, caught and kept as data. -/
namespace Py
open PySem PySem.Spec PyProof.Rows L2

/-! ### an exception that has landed is tracked from then on -/
section
variable {X : Cx} {pins : List (Addr × Obj)} {σ : St} {H : Hp} {s : Shared}
theorem exk_ok {P : Program} {w : World} {H : Hp} {h : Heap} {a C d : Addr} {oe : Obj} {vs : Array Value} (he : h.get? a = some oe) (h1 : oe.cls = .ref C) (h2 : oe.dict = some d) (h3 : oe.data = .fields vs) : ObjOk P w H h a (exk a C d) :=
  ⟨⟨oe, vs, he, h1, h2, h3⟩, ⟨oe, he⟩, fun g1 g2 z k => by
    obtain ⟨o, us, q, r⟩ := z
    exact ⟨o, us, k _ q, r⟩⟩
theorem _root_.L2.Inv.track {a C d : Addr} {oe : Obj} {vs : Array Value} (I : Inv X pins σ H s) (n0 : X.s_0.heap.get? a = none) (npin : ∀ p ∈ X.pn ++ pins, p.1 ≠ a) (he : s.heap.get? a = some oe) (h1 : oe.cls = .ref C) (h2 : oe.dict = some d) (h3 : oe.data = .fields vs)
    (na : H a = none) (nL : a ≠ X.env.locals) : Inv X pins σ (upd H a (exk a C d)) s where
  ok := I.ok
  os := I.os
  bare := I.bare
  base := {
    keep := fun b o e n hb hx => I.base.keep b o e n hb hx
    slot := fun b o e n hb hx => I.base.slot b o e n hb hx
    free := fun b o e n hx => by
      have hb : b ≠ a := fun z => by rw [z, n0] at e; cases e
      rw [upd_ne hb]
      exact I.base.free b o e n hx
    there := fun b o e hx => I.base.there b o e hx
    tups := fun b xs e => by
      have q := I.base.tups b xs e
      rw [upd_ne (ne_of_none q na)]; exact q
    frzs := fun b o xs e => by
      have q := I.base.frzs b o xs e
      rw [upd_ne (ne_of_none q na)]; exact q
    tbls := fun b ps e => by
      obtain ⟨more, q⟩ := I.base.tbls b ps e
      exact ⟨more, by rw [upd_ne (ne_of_none q na)]; exact q⟩ }
  loc := I.loc
  cell := I.cell
  free := by rw [upd_ne (Ne.symm nL)]; exact I.free
  freeC := fun x c e => by
    have hc : c ≠ a := fun z => by
      obtain ⟨v, o, ho, hd⟩ := I.cell x c e
      rw [z, he] at ho
      cases ho
      rw [h3] at hd
      cases hd
    rw [upd_ne hc]
    exact I.freeC x c e
  pin := fun p hp => by
    obtain ⟨e, n, ne, nf, dd⟩ := I.pin p hp
    exact ⟨e, by rw [upd_ne (npin p hp)]; exact n, ne, nf, dd⟩
  hok := fun b u e => by
    by_cases hb : b = a
    · subst hb
      rw [upd_same] at e
      cases e
      exact exk_ok he h1 h2 h3
    · rw [upd_ne hb] at e
      exact (I.hok b u e).stay (fun c v _ q => q) (fun c q => by rw [upd_ne (ne_of_none q na)]; exact q) fun c xs q => by rw [upd_ne (ne_of_none q na)]; exact q
  len := I.len
theorem _root_.L2.Inv.toSuite (I : Inv X pins σ H s) (a : Addr) : Inv (X.suite a (X.pn ++ pins)) [] σ H s :=
  ⟨I.ok.suite _ _, I.os, I.bare, I.base, I.loc, I.cell, I.free, I.freeC, fun p hp => I.pin p (by rw [List.append_nil] at hp; exact hp), I.hok, I.len⟩
theorem _root_.L2.Inv.ofSuite {a : Addr} {pn' : List (Addr × Obj)} (I : Inv (X.suite a (X.pn ++ pins)) pn' σ H s) (ok : X.Ok) : Inv X pins σ H s :=
  ⟨ok, I.os, I.bare, I.base, I.loc, I.cell, I.free, I.freeC, fun p hp => I.pin p (List.mem_append_left _ hp), I.hok, I.len⟩
end

/-- a slot that may be none -/
def putO {α : Type} (i : Option Nat) (x : Option α) (l : List (Option α)) : List (Option α) := match i with | some i => l.set i x | none => l
/-- what a clause wishes of an exception of the body: it is an object of its own from then on; i: the slot of the clause's name -/
def wTrk (K : PySem.W.Frag) (c : Value) (i : Option Nat) (ts : TS) (Wout : WX) (U : Ends) : WX := fun cls dd σ H =>
  ∃ b, PySem.W.exmOne K cls c = some b ∧ (b = true → ∃ C d, cls = .ref C ∧ dd = some d ∧ ∀ a, H a = none →
      ts { nx := fun σ' H' => U.nx (putO i none σ') H', rt := U.rt, bk := fun σ' H' => U.bk (putO i none σ') H', ct := fun σ' H' => U.ct (putO i none σ') H' }
        (putO i (some (.ref a)) σ) (upd H a (exk a C d))) ∧
    (b = false → Wout cls dd σ H)
section
variable {X : Cx} {x : Str} {c : Value} {body suite : List Stmt} {b₀ : Stmt} {np pos pos' : Pos} {tb : WX → TS} {ts : TS} {Wout : WX}
/-- try: body / except x [as n]: suite -/
theorem ps_try_trk {nm : Option Str} {i : Option Nat} (hex : X.ex = []) (hs : X.stack = X.env :: X.outer) (hf : X.env.frame = some X.env.locals) (hN : X.N.Nodup)
    (hn : match nm, i with | some n, some i => X.N[i]? = some n ∧ X.env.kindOf n = some .local | none, none => True | _, _ => False) (hc : Names X x c) (tk : Takes X Wout)
    (hb : ∀ (W : WX) (pn : List (Addr × Obj)) (xe : Value → Shared → Prop), Takes (X.tr pn xe) W → PassesOwn (model X.prog X.w) X.A X.env xe → PSs (X.tr pn xe) body (tb W))
    (hsu : ∀ (a : Addr) (pn : List (Addr × Obj)), PSs (X.suite a pn) (b₀ :: suite) ts) :
    PS X (.Try body [.ExceptHandler (some (.Name x np)) nm (b₀ :: suite) pos'] [] [] pos) (fun U σ H => tb (wTrk X.K c i ts Wout U) U σ H) := by
  refine ⟨fun pins s σ H U I h => ?_⟩
  have ok := I.ok
  have hfr : X.A.frames = some (X.env :: X.outer) := by rw [ok.frames, hs]
  refine wpAny_Try_except ?_
  let xe2 : Value → Shared → Prop := fun e s₁ => wpAny (model X.prog X.w) X.A (noteFrame e X.env) (fun _ s₂ => wpAny (model X.prog X.w) X.A (setFlight e none) (fun _ s₃ =>
    wpAny (model X.prog X.w) X.A (handleBy e X.env [.ExceptHandler (some (.Name x np)) nm (b₀ :: suite) pos']) (SP X pins U) X.xe s₃) X.xe s₂) X.xe s₁
  have caught : Takes (X.tr (X.pn ++ pins) xe2) (wTrk X.K c i ts Wout U) := by
    intro u s' xx
    obtain ⟨a, B, sI, pins', σ1, H1, cls, dd, rfl, J', nb, up, sky, na, os, ag, b, hb1, hyes, hno⟩ := xx
    have J : Inv X pins σ1 H1 sI := J'.ofTry ok
    have sky' : Sky B (X.env :: X.outer) a (Zc cls dd) X.env.locals s'.heap := by rw [← hs]; exact sky
    show wpAny (model X.prog X.w) X.A (noteFrame (.ref a) X.env) _ _ _
    -- the ground does not have it
    have nB : B.get? a = none := by
      rcases sky' with ⟨_, q, _⟩ | q | q
      · exact q
      · exact q.2.1
      · exact q.2.1
    refine Sky.land Zc.steady hfr hf sky' fun h3 fl3 up3 => ?_
    have J3 : Inv X pins σ1 H1 { s' with heap := h3 } := J.landed nb fl3.1 (up.trans up3) os ag
    obtain ⟨oe3, vs3, he3, hz3, hd3⟩ := fl3.there
    have out : ∀ {h : Heap} {o : Obj} {vs : Array Value}, h.FunFrames B (X.env :: X.outer) → h.get? a = some o → o.data = .fields vs → a ∉ frs (X.env :: X.outer) := fun ff e dt hm => by
      obtain ⟨_, o', e', hnf⟩ := ff.mem hm
      rw [e] at e'; cases e'
      exact hnf _ dt
    have nfr := out fl3.2.2.1 he3 hd3
    have nL : a ≠ X.env.locals := fun z => nfr (List.mem_filterMap.mpr ⟨X.env, List.mem_cons_self, by rw [hf, z]⟩)
    have nI : sI.heap.get? a = none := by
      cases q : sI.heap.get? a with
      | none => rfl
      | some o =>
        have z := nb a o q (by rw [hs]; exact nfr)
        rw [nB] at z; cases z
    have n0 : X.s_0.heap.get? a = none := by
      cases q : X.s_0.heap.get? a with
      | none => rfl
      | some o =>
        obtain ⟨o', z⟩ := J.base.there a o q (by rw [hex]; simp)
        rw [nI] at z; cases z
    have npin : ∀ p ∈ X.pn ++ pins, p.1 ≠ a := fun p hp z => by
      have q := (J.pin p hp).1
      rw [z, nI] at q; cases q
    refine wpAny_handleBy_cons (codeAny_handlers_test ?_) (by intro q; cases q)
    have LT : PySem.W.Looks (model X.prog X.w) h3 (typeOf (.ref a)) cls := fun A Q E s k q => wpAny_typeOf_ref (k _ _ he3) (by rw [hz3.1]; exact q)
    have LM := PySem.W.exm_one (M := model X.prog X.w) (J3.kIn) LT hb1
    have S3 := J3.toSuite a
    have test : ∀ {Q : Value → Shared → Prop} {E : Value → Shared → Prop}, Q c { s' with heap := h3 } → wpAny (model X.prog X.w) (X.A.mark (some (.ref a))) (eval (.Name x np) X.env) Q E { s' with heap := h3 } := fun {Q E} q => by
      obtain ⟨hg, hdbg, hm | ⟨hm, hv, hnn⟩⟩ := hc
      · exact ld_glob (X := X.suite a (X.pn ++ pins)) S3 hg hm q hdbg
      · exact ld_blt (X := X.suite a (X.pn ++ pins)) S3 hg hm hv q hnn hdbg
    refine test (LM.here ?_)
    cases b with
    | true =>
      obtain ⟨C, d, rfl, rfl, hy⟩ := hyes rfl
      cases nm with
      | none =>
        cases i with
        | some i => exact hn.elim
        | none =>
          refine codeAny_handlers_suite ?_
          refine HandSPX.lands_againZ fl3 fun h4 fl4 up4 => ?_
          have J4 : Inv X pins σ1 H1 { s' with heap := h4 } := J.landed nb fl4.1 ((up.trans up3).trans up4) os ag
          obtain ⟨oe4, vs4, he4, hz4, hd4⟩ := fl4.there
          have T4 := (J4.track n0 npin he4 hz4.1 hz4.2 hd4 na nL).toSuite a
          refine wpAny_mono ((hsu a (X.pn ++ pins)).run [] _ _ _ _ T4 (hy a na)) (fun fl s6 hsp => ?_) (fun _ _ z => False.elim z)
          cases fl with
          | next =>
            obtain ⟨σ6, H6, S6, q6⟩ := hsp
            exact ⟨_, _, S6.ofSuite ok, q6⟩
          | brk =>
            obtain ⟨σ6, H6, S6, q6⟩ := hsp
            exact ⟨_, _, S6.ofSuite ok, q6⟩
          | cont =>
            obtain ⟨σ6, H6, S6, q6⟩ := hsp
            exact ⟨_, _, S6.ofSuite ok, q6⟩
          | ret u =>
            obtain ⟨v6, σ6, H6, S6, r6, q6⟩ := hsp
            exact ⟨_, _, _, S6.ofSuite ok, r6, q6⟩
      | some n =>
        cases i with
        | none => exact hn.elim
        | some i =>
          obtain ⟨hi, hln⟩ := hn
          refine codeAny_handlers_suite_as ?_
          refine HandSPX.lands_againZ fl3 fun h4 fl4 up4 => ?_
          have J4 : Inv X pins σ1 H1 { s' with heap := h4 } := J.landed nb fl4.1 ((up.trans up3).trans up4) os ag
          obtain ⟨oe4, vs4, he4, hz4, hd4⟩ := fl4.there
          have T4 := (J4.track n0 npin he4 hz4.1 hz4.2 hd4 na nL).toSuite a
          refine store_ok (X := X.suite a (X.pn ++ pins)) (v := .ref a) T4 hN hi (.inl hln) rfl (fun s5 S5 => ?_) (.inr hln)
          refine wpAny_mono ((hsu a (X.pn ++ pins)).run [] s5 _ _ _ S5 (hy a na)) (fun fl s6 hsp => ?_) (fun _ _ z => False.elim z)
          have fin : ∀ {σ6 : St} {H6 : Hp} {Q : Shared → Prop}, Inv (X.suite a (X.pn ++ pins)) [] σ6 H6 s6 → (∀ s7, Inv X pins (σ6.set i none) H6 s7 → Q s7) →
              wpAny (model X.prog X.w) X.A (do bindName X.env n .none; unbindBehindTheSuite X.env n pos') (fun _ s7 => Q s7) X.xe s6 := fun {σ6 H6 Q} S6 hq => gone_ok (S6.ofSuite ok) hN hi hln hq
          cases fl with
          | next =>
            obtain ⟨σ6, H6, S6, q6⟩ := hsp
            exact fin S6 fun s7 J7 => ⟨_, _, J7, q6⟩
          | brk =>
            obtain ⟨σ6, H6, S6, q6⟩ := hsp
            exact fin S6 fun s7 J7 => ⟨_, _, J7, q6⟩
          | cont =>
            obtain ⟨σ6, H6, S6, q6⟩ := hsp
            exact fin S6 fun s7 J7 => ⟨_, _, J7, q6⟩
          | ret u =>
            obtain ⟨v6, σ6, H6, S6, r6, q6⟩ := hsp
            exact fin S6 fun s7 J7 => ⟨_, _, _, J7, r6, q6⟩
    | false =>
      show wpAny _ X.A (handleBy (.ref a) X.env []) _ _ _
      refine wpAny_handleBy_nil ?_
      obtain ⟨k1, k2, k3, oe, vs, T, oT, ts', he, hz, hd, h1, hr⟩ := id fl3
      unfold PySem.passOn
      refine wpAny_bind (wpAny_field he hd h1 ?_)
      rw [if_neg (show ¬ ((Value.ref T == Value.none) = true) from by simp)]
      have on : wpAny (model X.prog X.w) X.A (setFlight (.ref a) X.env.frame) (fun _ s4 => wpAny (model X.prog X.w) X.A (throw (.ref a) : Sem Flow) (SP X pins U) X.xe s4) X.xe { s' with heap := h3 } := by
        rw [hf]
        refine HandSPX.setFlight_upZ fl3 fun h4 hh4 up4 => wpAny_throw (tk _ _ ?_)
        exact ⟨a, B, sI, pins, σ1, H1, cls, dd, rfl, J, nb, (up.trans up3).trans up4, .inr (.inr (by rw [hs]; exact hh4)), na, os, ag, hno rfl⟩
      first
        | exact wpAny_bind (wpAny_pure (wpAny_bind on))
        | exact wpAny_bind on
  refine wpAny_mono ((hb _ (X.pn ++ pins) xe2 caught PassesOwn.looking).run [] s σ H U (I.toTry _) h) (fun fl s1 hsp => ?_) (fun e s1 he => he)
  cases fl with
  | next =>
    obtain ⟨σ1, H1, J1, q⟩ := hsp
    exact wpAny_execs_nil ⟨σ1, H1, J1.ofTry ok, q⟩
  | brk =>
    obtain ⟨σ1, H1, J1, q⟩ := hsp
    exact ⟨σ1, H1, J1.ofTry ok, q⟩
  | cont =>
    obtain ⟨σ1, H1, J1, q⟩ := hsp
    exact ⟨σ1, H1, J1.ofTry ok, q⟩
  | ret u =>
    obtain ⟨v, σ1, H1, J1, r, q⟩ := hsp
    exact ⟨v, σ1, H1, J1.ofTry ok, r, q⟩
end

/-- try: F / except (a class that takes c where m c) [as the slot i]: G -/
def sTry (m : Nat → Option Bool) (i : Option Nat) (F G : DenS) : DenS := fun e S => match F e S with
  | .err c v e1 S1 => (match m c with
    | some true => (match G (putO i (some (.exc c v)) e1) S1 with
      | .next e2 S2 => .next (putO i none e2) S2
      | .brk e2 S2 => .brk (putO i none e2) S2
      | .cont e2 S2 => .cont (putO i none e2) S2
      | .ret d S2 => .ret d S2
      | _ => .bad)
    | some false => .err c v e1 S1
    | none => .bad)
  | r => r
section
variable {K : PySem.W.Frag} {ca : Nat → Addr}
theorem Sim.unset {w : Wd} {env : Env} {σ : St} (h : Sim K ca w env σ) (i : Nat) : Sim K ca w (env.set i none) (σ.set i none) := by
  refine ⟨by simp [h.1], fun j x q => ?_⟩
  by_cases hj : i = j
  · subst hj
    by_cases hl : i < env.length
    · rw [List.getElem?_set_self hl] at q; cases q
    · rw [List.getElem?_eq_none (by simpa using hl)] at q; cases q
  · rw [List.getElem?_set_ne hj] at q
    obtain ⟨u, a, b⟩ := h.2 j x q
    exact ⟨u, by rw [List.getElem?_set_ne hj]; exact a, b⟩
end
section
variable {X : Cx} {ca : Nat → Addr} {W : WX} {x : Str} {c : Value} {body suite : List Stmt} {b₀ : Stmt} {np pos pos' : Pos} {F G : DenS}
theorem s_try {nm : Option Str} {i : Option Nat} {m : Nat → Option Bool} (hm : ∀ k b, m k = some b → PySem.W.exmOne X.K (.ref (ca k)) c = some b) (hex : X.ex = []) (hs : X.stack = X.env :: X.outer) (hf : X.env.frame = some X.env.locals) (hN : X.N.Nodup)
    (hn : match nm, i with | some n, some i => X.N[i]? = some n ∧ X.env.kindOf n = some .local | none, none => True | _, _ => False) (hc : Names X x c) (tk : Takes X W)
    (hb : ∀ (W : WX) (pn : List (Addr × Obj)) (xe : Value → Shared → Prop), Takes (X.tr pn xe) W → PassesOwn (model X.prog X.w) X.A X.env xe → PSs (X.tr pn xe) body (tS X.K ca W F))
    (hsu : ∀ (a : Addr) (pn : List (Addr × Obj)), PSs (X.suite a pn) (b₀ :: suite) (tS X.K ca (fun _ _ _ _ => False) G)) :
    PS X (.Try body [.ExceptHandler (some (.Name x np)) nm (b₀ :: suite) pos'] [] [] pos) (tS X.K ca W (sTry m i F G)) :=
  PS.imp (ps_try_trk (i := i) (Wout := W) hex hs hf hN hn hc tk (fun W pn xe => hb W pn xe) hsu) fun U σ H ⟨w, env, e, s, mm, h⟩ => by
    refine ⟨w, env, e, s, mm, ?_⟩
    unfold sTry at h
    cases q : F env w.S with
    | next e1 S1 => rw [q] at h; exact h
    | brk e1 S1 => rw [q] at h; exact h
    | cont e1 S1 => rw [q] at h; exact h
    | ret d S1 => rw [q] at h; exact h
    | bad => rw [q] at h; exact h
    | err k v e1 S1 =>
      rw [q] at h
      dsimp only at h
      intro w1 hS x1 s1 σ1 cls dd m1 ex
      subst hS
      obtain ⟨rfl, d, vv, rfl, hd, nM, rv⟩ := ex
      cases hmk : m k with
      | none => rw [hmk] at h; exact h.elim
      | some b =>
        rw [hmk] at h
        refine ⟨b, hm k b hmk, fun hb => ⟨ca k, d, rfl, rfl, fun a ha => ?_⟩, fun hb => ?_⟩
        · subst hb
          dsimp only at h
          have x2 := Ext.alloc (w := w1) (o := exk a (ca k) d) ha
          have s2 := s1.alloc (X := X) (o := exk a (ca k) d) ha
          have re : Rep X.K ca ⟨upd w1.H a (exk a (ca k) d), w1.ρ, w1.S⟩ (.ref a) (.exc k v) := by
            refine .exc (d := d) upd_same (x2.keep _ _ hd nM) ?_ (x2.notM hd nM) (rv.mono x2 s1)
            exact fun z => s1.notM0 ha z
          have ha0 : ∀ (i : Option Nat), Sim X.K ca ⟨upd w1.H a (exk a (ca k) d), w1.ρ, w1.S⟩ (putO i (some (.exc k v)) e1) (putO i (some (.ref a)) σ1) := fun i => by
            cases i with
            | none => exact m1.mono x2 s1
            | some i => exact (m1.mono x2 s1).set i re
          refine ⟨_, _, rfl, s2, ha0 i, ?_⟩
          have fin : ∀ {e2 : Env} {σ2 : St} {w2 : Wd}, Sim X.K ca w2 e2 σ2 → Sim X.K ca w2 (putO i none e2) (putO i none σ2) := fun {e2 σ2 w2} z => by
            cases i with
            | none => exact z
            | some i => exact z.unset i
          cases zg : G (putO i (some (.exc k v)) e1) w1.S with
          | next e2 S2 =>
            rw [zg] at h
            intro w3 hS x3 s3 σ3 m3
            exact h w3 hS (x1.trans (x2.trans x3)) s3 _ (fin m3)
          | brk e2 S2 =>
            rw [zg] at h
            intro w3 hS x3 s3 σ3 m3
            exact h w3 hS (x1.trans (x2.trans x3)) s3 _ (fin m3)
          | cont e2 S2 =>
            rw [zg] at h
            intro w3 hS x3 s3 σ3 m3
            exact h w3 hS (x1.trans (x2.trans x3)) s3 _ (fin m3)
          | ret d2 S2 =>
            rw [zg] at h
            intro w3 hS x3 s3 v3 r3
            exact h w3 hS (x1.trans (x2.trans x3)) s3 _ r3
          | err c2 v2 e2 S2 => rw [zg] at h; exact h.elim
          | bad => rw [zg] at h; exact h.elim
        · subst hb
          exact h w1 rfl x1 s1 σ1 _ _ m1 ⟨rfl, d, vv, rfl, hd, nM, rv⟩
end

/-! ### raise C(e), C's own __init__ that of the base of all: ValueError.__init__(self, value); self.value = value -/
def spInit (K : PySem.W.Frag) : Sp := fun vs H Q _ => ∃ (a C : Addr) (v : V), vs = [.ref a, v] ∧ OexC K C ∧ H a = some (exo a C none) ∧ PySem.W.findIn K (.ref C) "value" = some none ∧
  ∀ d, H d = none → d ≠ a → Q .non (upd (upd H d (exd d [("value", v)])) a (exo a C (some d)))
/-- what the written part says of a class of errors; fI: where its __init__ stands -/
structure ExcT (K : PySem.W.Frag) (C fI : Addr) : Prop where
  oex : OexC K C
  init : PySem.W.findIn K (.ref C) "__init__" = some (some (.ref fI))
  noval : PySem.W.findIn K (.ref C) "value" = some none
section
variable {X : Cx} {ca : Nat → Addr} {W : WX} {x : Str} {p pos pos2 : Pos} {f : Den} {a : Expr}
theorem s_raise {c k : Nat} {fI : Addr} {fd : FuncData} {ps : List Str} (hc : X.calm = true) (tk : Takes X W) (T : ExcT X.K (ca c) fI) (tI : PySem.W.typeIn X.K (.ref fI) = some (.type "function")) (F1 : FnOk X.prog X.w X.K X.mg X.base (L2.CX X.prog X.w) k fI fd ps (spInit X.K))
    (hr : Room (k + 1) X.A) (hb : Binds X.K fd ps []) (hg : Gl X x) (hm : X.mg x = some (.ref (ca c))) (ha : PE X a (tE X.K ca W f)) (hdb : (x == ("__debug__" : Str)) = false := by decide)
    (he : starEach (a :: []) X.env = (false, eval a X.env) :: starEach [] X.env := by rfl) (hpl : (backTo pos (starEach [] X.env)).any (·.1) = false := by rfl) :
    PS X (.Raise (some (.Call (.Name x p) [a] [] pos)) none pos2) (tS X.K ca W (sRaise c f)) :=
  PS.imp (ps_raise hc tk (pmk_oex T.oex T.init tI F1 hr hb .nil passL hg hm (pa_cons ha pa_nil he) hdb he hpl)) fun U σ H ⟨w, env, e, s, m, h⟩ =>
    tE_then (k := fun d S1 => RS.err c d env S1) e s m h fun w1 d v s1 m1 r x1 q => by
      refine ⟨(by show 1 ≤ 1000; decide), fun a ha => ?_⟩
      refine ⟨a, ca c, v, rfl, T.oex, upd_same, T.noval, fun d0 hd0 hne => ?_⟩
      rw [upd_ne hne] at hd0
      refine ⟨rfl, d0, [("value", v)], upd_same, ?_, hd0, ?_⟩
      · rw [upd_ne hne]; exact upd_same
      · have eH : upd (del (upd (upd (upd w1.H a (exo a (ca c) none)) d0 (exd d0 [("value", v)])) a (exo a (ca c) (some d0))) a) d0 (.xd [("value", v)]) = upd w1.H d0 (.xd [("value", v)]) := by
          funext b
          by_cases hb : b = d0
          · subst hb; rw [upd_same, upd_same]
          · rw [upd_ne hb, upd_ne hb]
            by_cases hba : b = a
            · subst hba; rw [del_same, ha]
            · rw [del_ne hba, upd_ne hba, upd_ne hb, upd_ne hba]
        rw [eH]
        have x2 := Ext.alloc (w := w1) (o := .xd [("value", v)]) hd0
        have s2 := s1.alloc (X := X) (o := .xd [("value", v)]) hd0
        exact q ⟨upd w1.H d0 (.xd [("value", v)]), w1.ρ, w1.S⟩ rfl x2 s2 σ _ _ (m1.mono x2 s1) ⟨rfl, d0, v, rfl, upd_same, fun z => s1.notM0 hd0 z, r.mono x2 s1⟩
end

/-! ### the base's __init__ keeps its promise -/
theorem init_ok {P : Program} {w : World} {K : PySem.W.Frag} {mg : Str → Option Value} {base : Heap} {qual : Str} {params : Arguments} {scope : Scope} {kws : List (Str × V)} {f : Addr} {fd : FuncData} {p1 p2 p3 p4 p5 p6 p7 p8 p9 p10 : Pos}
    (Fd : FunD K "__init__" qual params [.Expr (.Call (.Attribute (.Name "ValueError" p1) "__init__" p2) [.Name "self" p3, .Name "value" p4] [] p5) p6, .Assign [.Attribute (.Name "self" p7) "value" p8] (.Name "value" p9) p10] scope [] kws f fd)
    (S : FnScope ["self", "value"] ["self", "value"] scope) (hn1 : scope.names.lookup ("self" : Str) = some .local) (hn2 : scope.names.lookup ("value" : Str) = some .local) (hg : ∀ env : PySem.Env, env.scope = scope → env.kindOf "ValueError" = some .globalImplicit)
    (hc : ∀ env : PySem.Env, ∃ pl, eval (.Call (.Attribute (.Name "ValueError" p1) "__init__" p2) [.Name "self" p3, .Name "value" p4] [] p5) env = (do
      let ov ← eval (.Name "ValueError" p1) env
      standAt p2.atName
      let (f, first) ← holding [ov] (getMethod ov "__init__" pl)
      callWith p5 f first (backTo p5 (starEach [.Name "self" p3, .Name "value" p4] env)) (backToKw p5 (keywordEach [] env))))
    (hm : mg "ValueError" = none) (vV : PySem.W.findCls K (.type "ValueError") (.type "type") "__init__" = some (.val (.builtin "ValueError.__init__"))) :
    FnOk P w K mg base (L2.CX P w) 1 f fd ["self", "value"] (spInit K) := by
  refine Fd.ok S (fun vs H Q E h => ?_) (fun cdv A outer s H vs Q E hr h => ?_)
  · obtain ⟨a, C, v, rfl, _⟩ := h
    rfl
  · have v0 : ∀ {pp : Pos}, PE (cxOf (L2.CX P w) P w K mg base ["self", "value"] qual scope f cdv A outer s H E) (.Name "self" pp) (tVar 0) := fun {pp} => pe_var rfl (.inl hn1)
    have v1 : ∀ {pp : Pos}, PE (cxOf (L2.CX P w) P w K mg base ["self", "value"] qual scope f cdv A outer s H E) (.Name "value" pp) (tVar 1) := fun {pp} => pe_var rfl (.inl hn2)
    obtain ⟨pl, hc⟩ := hc (cxOf (L2.CX P w) P w K mg base ["self", "value"] qual scope f cdv A outer s H E).env
    refine ⟨_, pss_cons (ps_expr (pe_veinit (pl := pl) (hg _ rfl) hm vV (pa_cons v0 (pa_cons v1 pa_nil)) hc)) (pss_one (ps_ost v0 v1)), ?_⟩
    obtain ⟨a, C, v, rfl, T, ha, hv, q⟩ := h
    refine ⟨_, rfl, _, rfl, a, C, [v], rfl, (by show 1 ≤ 1000; decide), T, ha, ?_⟩
    exact ⟨_, rfl, _, rfl, a, C, rfl, T, hv, .inl ⟨ha, fun dx h1 h2 => q dx h1 h2⟩⟩
end Py

set_option maxHeartbeats 4000000
/-! PyF: built-in functions, places, slices, what changes lists. -/
namespace Py
open PySem PySem.Spec PyProof.Rows L2

section
variable {X : Cx} {ca : Nat → Addr} {W : WX} {pos p : Pos} {f g h : Den} {gs hs : Dens} {a b e : Expr} {es : List Expr}

/-! ### calls of built-in functions -/
theorem fn_imp {o : OpN} (n : MuteN o) {σ : St} {H : Hp} {Q : VK} (h : tE X.K ca W (eFn o gs) σ H Q) : tCB (rON X.K ca o) (tEs X.K ca W gs) σ H Q := by
  obtain ⟨w, env, e, s, m, h⟩ := h
  refine tEs_bind (Qb := fun w => QV X.K ca w Q) e s m h (fun e q => QV.later e q) fun w1 ds vs s1 m1 r e1 h1 => ?_
  exact ⟨w1, ds, rfl, s1, r, h1.noErr (n _ _)⟩
theorem e_fnB {o : OpN} {id : String} {x : Str} (hc : CallR X (.builtin id) (rON X.K ca o)) (n : MuteN o) (hg : Gl X x) (hm : X.mg x = none) (hv : bootBuiltins x = some (.builtin id)) (ha : PA X (e :: es) (tEs X.K ca W gs)) (hn : x ≠ "__name__" := by decide) (hdb : (x == ("__debug__" : Str)) = false := by decide)
    (he : starEach (e :: es) X.env = (false, eval e X.env) :: starEach es X.env := by rfl) (hpl : (backTo pos (starEach es X.env)).any (·.1) = false := by rfl) : PE X (.Call (.Name x p) (e :: es) [] pos) (tE X.K ca W (eFn o gs)) :=
  PE.imp (pe_callB hc hg hm hv ha hn hdb he hpl) fun _ _ _ h => fn_imp n h
theorem e_fnT {o : OpN} {T : String} {x : Str} (hc : CallR X (.type T) (rON X.K ca o)) (n : MuteN o) (hg : Gl X x) (hm : X.mg x = none) (hv : bootBuiltins x = some (.type T)) (ha : PA X (e :: es) (tEs X.K ca W gs)) (hn : x ≠ "__name__" := by decide) (hdb : (x == ("__debug__" : Str)) = false := by decide)
    (he : starEach (e :: es) X.env = (false, eval e X.env) :: starEach es X.env := by rfl) (hpl : (backTo pos (starEach es X.env)).any (·.1) = false := by rfl) : PE X (.Call (.Name x p) (e :: es) [] pos) (tE X.K ca W (eFn o gs)) :=
  PE.imp (pe_callTy hc hg hm hv ha hn hdb he hpl) fun _ _ _ h => fn_imp n h
theorem e_fnM {o : OpN} {id : String} {x : Str} (hc : CallR X (.builtin id) (rON X.K ca o)) (n : MuteN o) (hg : Gl X x) (hm : X.mg x = some (.builtin id)) (ha : PA X (e :: es) (tEs X.K ca W gs)) (hdb : (x == ("__debug__" : Str)) = false := by decide)
    (he : starEach (e :: es) X.env = (false, eval e X.env) :: starEach es X.env := by rfl) (hpl : (backTo pos (starEach es X.env)).any (·.1) = false := by rfl) : PE X (.Call (.Name x p) (e :: es) [] pos) (tE X.K ca W (eFn o gs)) :=
  PE.imp (pe_callBfun hc hg hm ha hdb he hpl) fun _ _ _ h => fn_imp n h
end
/-- a built-in function that gives a fresh list -/
abbrev OpF := List D → Store → R (List D)
def dFn (o : OpF) (g : Dens) : Dens := fun e S => (g e S).bind fun as S1 => o as S1
def MuteF (o : OpF) : Prop := ∀ a S c v S', o a S ≠ .err c v S'
def rOF (K : PySem.W.Frag) (ca : Nat → Addr) (o : OpF) : List V → Hp → VK → Prop := fun xs H Q => ∃ w ds, w.H = H ∧ SOk K ca w ∧ RepL K ca w xs ds ∧ Sat (o ds w.S) (QF K ca w Q) fun _ _ _ => False
section
variable {X : Cx} {ca : Nat → Addr} {W : WX} {pos p : Pos} {f g h : Den} {gs hs : Dens} {a b e : Expr} {es : List Expr}
theorem fF_imp {o : OpF} (n : MuteF o) {σ : St} {H : Hp} {Q : VK} (h : tF X.K ca W (dFn o gs) σ H Q) : tCB (rOF X.K ca o) (tEs X.K ca W gs) σ H Q := by
  obtain ⟨w, env, e, s, m, h⟩ := h
  refine tEs_bind (Qb := fun w => QF X.K ca w Q) e s m h (fun e q => QF.later e q) fun w1 ds vs s1 m1 r e1 h1 => ?_
  exact ⟨w1, ds, rfl, s1, r, h1.noErr (n _ _)⟩
theorem f_fnT {o : OpF} {T : String} {x : Str} (hc : CallR X (.type T) (rOF X.K ca o)) (n : MuteF o) (hg : Gl X x) (hm : X.mg x = none) (hv : bootBuiltins x = some (.type T)) (ha : PA X (e :: es) (tEs X.K ca W gs)) (hn : x ≠ "__name__" := by decide) (hdb : (x == ("__debug__" : Str)) = false := by decide)
    (he : starEach (e :: es) X.env = (false, eval e X.env) :: starEach es X.env := by rfl) (hpl : (backTo pos (starEach es X.env)).any (·.1) = false := by rfl) : PE X (.Call (.Name x p) (e :: es) [] pos) (tF X.K ca W (dFn o gs)) :=
  PE.imp (pe_callTy hc hg hm hv ha hn hdb he hpl) fun _ _ _ h => fF_imp n h
theorem f_fnB {o : OpF} {id : String} {x : Str} (hc : CallR X (.builtin id) (rOF X.K ca o)) (n : MuteF o) (hg : Gl X x) (hm : X.mg x = none) (hv : bootBuiltins x = some (.builtin id)) (ha : PA X (e :: es) (tEs X.K ca W gs)) (hn : x ≠ "__name__" := by decide) (hdb : (x == ("__debug__" : Str)) = false := by decide)
    (he : starEach (e :: es) X.env = (false, eval e X.env) :: starEach es X.env := by rfl) (hpl : (backTo pos (starEach es X.env)).any (·.1) = false := by rfl) : PE X (.Call (.Name x p) (e :: es) [] pos) (tF X.K ca W (dFn o gs)) :=
  PE.imp (pe_callB hc hg hm hv ha hn hdb he hpl) fun _ _ _ h => fF_imp n h

theorem callImp {v : Value} {r r' : List V → Hp → VK → Prop} (hc : CallR X v r) (h : ∀ xs H Q, r' xs H Q → r xs H Q) : CallR X v r' := fun pins s σ H xs us Q I k q => hc pins s σ H xs us Q I k (h xs H Q q)
theorem opImp {f : Value → Value → Sem Value} {r r' : R2} (hc : OpR X f r) (h : ∀ x y H Q, r' x y H Q → r x y H Q) : OpR X f r' := fun pins s σ H x y v u Q I k l q => hc pins s σ H x y v u Q I k l (h x y H Q q)

theorem asL_rep {w : Wd} {v : V} {d : D} {xs : List D} (s : SOk X.K ca w) (r : Rep X.K ca w v d) (h : asL d w.S = some xs) : ∃ a vs, v = .ref a ∧ w.H a = some (.lst vs) ∧ RepL X.K ca w vs xs := by
  cases r with
  | lst h1 n r =>
    cases h
    exact ⟨_, _, rfl, h1, r⟩
  | @ref n hn =>
    unfold asL at h
    dsimp only at h
    cases q : w.S[n]? with
    | none => rw [q] at h; cases h
    | some o =>
      cases o with
      | dead => rw [q] at h; cases h
      | lst ys =>
        rw [q] at h
        cases h
        obtain ⟨vs, e, r⟩ := s.live n _ q
        exact ⟨_, vs, rfl, e, r⟩
  | _ => cases h
theorem asSq_rep {w : Wd} {v : V} {d : D} {xs : List D} (s : SOk X.K ca w) (r : Rep X.K ca w v d) (h : asSq d w.S = some xs) : ∃ a vs, v = .ref a ∧ (SqL X.K w.H a vs ∨ SqT X.K w.H a vs) ∧ RepL X.K ca w vs xs := by
  have key : asL d w.S = some xs → ∃ a vs, v = .ref a ∧ (SqL X.K w.H a vs ∨ SqT X.K w.H a vs) ∧ RepL X.K ca w vs xs := fun h => by
    obtain ⟨a, vs, e, q, r⟩ := asL_rep s r h
    exact ⟨a, vs, e, .inl (.inl (.inl q)), r⟩
  cases r with
  | tup h1 r =>
    cases h
    exact ⟨_, _, rfl, .inr h1, r⟩
  | @fls a is hq =>
    cases h
    exact ⟨a, _, rfl, .inl (fls_sq hq), repL_ints is⟩
  | _ => exact key h

/-! ### len, int, abs, max, min, gcd -/
end
def oLen : OpN := fun ds S => match ds with
  | [.str x] => if x.length ≤ sizeLine then .ok (.int x.length) S else .bad
  | [d] => (match asSq d S with | some xs => .ok (.int xs.length) S | none => .bad)
  | _ => .bad
def oInt : OpN := fun ds S => match ds with
  | [.int i] => .ok (.int i) S
  | [.bl b] => .ok (.int (b2i b)) S
  | _ => .bad
def oAbs : OpN := fun ds S => match ds with
  | [.int i] => .ok (.int i.natAbs) S
  | _ => .bad
def oMax2 : OpN := fun ds S => match ds with
  | [.int i, .int j] => .ok (.int (max i j)) S
  | _ => .bad
def oMin2 : OpN := fun ds S => match ds with
  | [.int i, .int j] => .ok (.int (min i j)) S
  | _ => .bad
def oGcd : OpN := fun ds S => match ds with
  | [.int i, .int j] => .ok (.int (Nat.gcd i.natAbs j.natAbs : Nat)) S
  | _ => .bad
def oTuple : OpN := fun ds S => match ds with
  | [.tup xs] => .ok (.tup xs) S
  | [d] => (match asL d S with | some xs => .ok (.tup xs) S | none => .bad)
  | _ => .bad
def oList : OpF := fun ds S => match ds with
  | [d] => (match asSq d S with | some xs => .ok xs S | none => .bad)
  | _ => .bad
def isInts : List D → Option (List Int)
  | [] => some []
  | .int i :: ds => (isInts ds).map (i :: ·)
  | _ => none
def isBls : List D → Option (List Bool)
  | [] => some []
  | .bl i :: ds => (isBls ds).map (i :: ·)
  | _ => none
/-- of one list -/
def lst1 {α β : Type} (isA : List D → Option (List α)) (k : List α → R β) (ds : List D) (S : Store) : R β := match ds with
  | [d] => (match (asL d S).bind isA with | some ns => k ns | none => .bad)
  | _ => .bad
def oSum : OpN := fun ds S => lst1 isInts (fun ns => .ok (.int ns.sum) S) ds S
def oAll : OpN := fun ds S => lst1 isBls (fun bs => .ok (.bl (bs.all id)) S) ds S
def oAny : OpN := fun ds S => lst1 isBls (fun bs => .ok (.bl (bs.any id)) S) ds S
def maxI : List Int → Int
  | [] => 0 | [x] => x | x :: xs => max x (maxI xs)
def minI : List Int → Int
  | [] => 0 | [x] => x | x :: xs => min x (minI xs)
def ne1 (k : List Int → R D) (ns : List Int) : R D := match ns with | [] => .bad | n :: ns => k (n :: ns)
def oMaxL : OpN := fun ds S => lst1 isInts (ne1 fun ns => .ok (.int (maxI ns)) S) ds S
def oMinL : OpN := fun ds S => lst1 isInts (ne1 fun ns => .ok (.int (minI ns)) S) ds S
theorem maxI_ok : ∀ {xs : List Int}, xs ≠ [] → maxI xs ∈ xs ∧ ∀ y ∈ xs, y ≤ maxI xs
  | [], h => absurd rfl h
  | [x], _ => by simp [maxI]
  | x :: y :: ys, _ => by
    have ih := maxI_ok (xs := y :: ys) (by simp)
    have e : maxI (x :: y :: ys) = max x (maxI (y :: ys)) := rfl
    rw [e]
    refine ⟨?_, fun z hz => ?_⟩
    · rcases Int.le_total x (maxI (y :: ys)) with l | l
      · rw [Int.max_eq_right l]; exact List.mem_cons_of_mem _ ih.1
      · rw [Int.max_eq_left l]; exact List.mem_cons_self
    · rcases List.mem_cons.mp hz with rfl | hz
      · exact Int.le_max_left _ _
      · exact Int.le_trans (ih.2 z hz) (Int.le_max_right _ _)
theorem minI_ok : ∀ {xs : List Int}, xs ≠ [] → minI xs ∈ xs ∧ ∀ y ∈ xs, minI xs ≤ y
  | [], h => absurd rfl h
  | [x], _ => by simp [minI]
  | x :: y :: ys, _ => by
    have ih := minI_ok (xs := y :: ys) (by simp)
    have e : minI (x :: y :: ys) = min x (minI (y :: ys)) := rfl
    rw [e]
    refine ⟨?_, fun z hz => ?_⟩
    · rcases Int.le_total x (minI (y :: ys)) with l | l
      · rw [Int.min_eq_left l]; exact List.mem_cons_self
      · rw [Int.min_eq_right l]; exact List.mem_cons_of_mem _ ih.1
    · rcases List.mem_cons.mp hz with rfl | hz
      · exact Int.min_le_left _ _
      · exact Int.le_trans (Int.min_le_right _ _) (ih.2 z hz)
section
variable {X : Cx} {ca : Nat → Addr}
theorem isInts_rep {w : Wd} : ∀ {vs : List V} {ds : List D} {ns : List Int}, RepL X.K ca w vs ds → isInts ds = some ns → vs = ns.map V.int
  | _, _, ns, .nil, h => by cases h; rfl
  | _, _, ns, .cons (d := d) (ds := ds) r t, h => by
    cases r <;> first | (cases h; done) | skip
    unfold isInts at h
    cases q : isInts ds with
    | none => rw [q] at h; cases h
    | some ms =>
      rw [q] at h
      cases h
      rw [isInts_rep t q]
      rfl
theorem isBls_rep {w : Wd} : ∀ {vs : List V} {ds : List D} {ns : List Bool}, RepL X.K ca w vs ds → isBls ds = some ns → vs = ns.map V.bl
  | _, _, ns, .nil, h => by cases h; rfl
  | _, _, ns, .cons (d := d) (ds := ds) r t, h => by
    cases r <;> first | (cases h; done) | skip
    unfold isBls at h
    cases q : isBls ds with
    | none => rw [q] at h; cases h
    | some ms =>
      rw [q] at h
      cases h
      rw [isBls_rep t q]
      rfl
theorem n_len : MuteN oLen := by
  intro a S c v S' h; revert h; unfold oLen; split <;> (try split) <;> simp
theorem n_int : MuteN oInt := by intro a S c v S' h; revert h; unfold oInt; split <;> simp
theorem n_abs : MuteN oAbs := by intro a S c v S' h; revert h; unfold oAbs; split <;> simp
theorem n_max2 : MuteN oMax2 := by intro a S c v S' h; revert h; unfold oMax2; split <;> simp
theorem n_min2 : MuteN oMin2 := by intro a S c v S' h; revert h; unfold oMin2; split <;> simp
theorem n_gcd : MuteN oGcd := by intro a S c v S' h; revert h; unfold oGcd; split <;> simp
theorem n_tuple : MuteN oTuple := by intro a S c v S' h; revert h; unfold oTuple; split <;> (try split) <;> simp
theorem n_list : MuteF oList := by intro a S c v S' h; revert h; unfold oList; split <;> (try split) <;> simp
theorem lst1_mute {α : Type} {isA : List D → Option (List α)} {k : List α → R D} {ds : List D} {S : Store} {c : Nat} {v : D} {S' : Store} (hk : ∀ ns, k ns ≠ .err c v S') : lst1 isA k ds S ≠ .err c v S' := by
  unfold lst1
  split
  · split
    · exact hk _
    · simp
  · simp
theorem n_sum : MuteN oSum := fun a S c v S' => lst1_mute (by simp)
theorem n_all : MuteN oAll := fun a S c v S' => lst1_mute (by simp)
theorem n_any : MuteN oAny := fun a S c v S' => lst1_mute (by simp)
theorem n_maxL : MuteN oMaxL := fun a S c v S' => lst1_mute fun ns => by cases ns <;> simp [ne1]
theorem n_minL : MuteN oMinL := fun a S c v S' => lst1_mute fun ns => by cases ns <;> simp [ne1]
theorem c_len : CallR X (.builtin "len") (rON X.K ca oLen) := callImp call_len fun xs H Q h => by
  obtain ⟨w, ds, e, s, r, h⟩ := h
  subst e
  have sq : ∀ {d : D} {v : V}, Rep X.K ca w v d → Sat (match asSq d w.S with | some xs => Py.R.ok (.int xs.length) w.S | none => .bad) (QV X.K ca w Q) (fun _ _ _ => False) → ∃ x n, [v] = [x] ∧ LenV X.K x w.H n ∧ Q (.int n) w.H := fun {d v} r h => by
    cases q : asSq d w.S with
    | none => rw [q] at h; exact h.elim
    | some ys =>
      rw [q] at h
      obtain ⟨a, vs, e, q1, r1⟩ := asSq_rep s r q
      subst e
      refine ⟨.ref a, ys.length, rfl, ?_, sat_here s h (.int _)⟩
      rcases q1 with q1 | q1
      · exact .inl ⟨vs, q1, r1.length.symm⟩
      · exact .inr ⟨vs, q1, r1.length.symm⟩
  unfold oLen at h
  cases r with
  | nil => exact h.elim
  | cons r t =>
    cases t with
    | cons _ _ => cases r <;> exact h.elim
    | nil =>
      cases r with
      | str x =>
        dsimp only at h
        by_cases hl : x.length ≤ sizeLine
        · rw [if_pos hl] at h
          exact ⟨.str x, x.length, rfl, ⟨hl, rfl⟩, sat_here s h (.int _)⟩
        · rw [if_neg hl] at h
          exact h.elim
      | non => exact sq .non h
      | bl b => exact sq (.bl b) h
      | int i => exact sq (.int i) h
      | tup a b => exact sq (.tup a b) h
      | lst a b c => exact sq (.lst a b c) h
      | ref a => exact sq (.ref a) h
      | fls a => exact sq (.fls a) h
      | dct a b c d => exact sq (.dct a b c d) h
      | exc a b c d e => exact sq (.exc a b c d e) h
theorem c_int : CallR X (.type "int") (rON X.K ca oInt) := callImp call_int1 fun xs H Q h => by
  obtain ⟨w, ds, e, s, r, h⟩ := h
  subst e
  unfold oInt at h
  cases r with
  | nil => exact h.elim
  | cons r t =>
    cases t with
    | cons _ _ => cases r <;> exact h.elim
    | nil =>
      cases r with
      | int i => exact .inl ⟨i, rfl, sat_here s h (.int _)⟩
      | bl b => exact .inr ⟨b, rfl, by have := sat_here s h (.int _); cases b <;> exact this⟩
      | _ => exact h.elim
theorem c_abs : CallR X (.builtin "abs") (rON X.K ca oAbs) := callImp call_abs fun xs H Q h => by
  obtain ⟨w, ds, e, s, r, h⟩ := h
  subst e
  unfold oAbs at h
  cases r with
  | nil => exact h.elim
  | cons r t =>
    cases t with
    | cons _ _ => cases r <;> exact h.elim
    | nil =>
      cases r with
      | int i =>
        refine ⟨i, rfl, ?_⟩
        have e : (if i < 0 then -i else i) = ((i.natAbs : Nat) : Int) := by split <;> omega
        rw [e]
        exact sat_here s h (.int _)
      | _ => exact h.elim
theorem two_ints {w : Wd} {xs : List V} {ds : List D} {o : OpN} {k : Int → Int → Int} (ho : ∀ ds S, o ds S = match ds with | [.int i, .int j] => .ok (.int (k i j)) S | _ => .bad) {Q : VK} (s : SOk X.K ca w) (r : RepL X.K ca w xs ds) (h : Sat (o ds w.S) (QV X.K ca w Q) fun _ _ _ => False) :
    ∃ i j, xs = [.int i, .int j] ∧ Q (.int (k i j)) w.H := by
  rw [ho] at h
  cases r with
  | nil => exact h.elim
  | cons r t =>
    cases t with
    | nil => cases r <;> exact h.elim
    | cons r2 t2 =>
      cases t2 with
      | cons _ _ => cases r <;> cases r2 <;> exact h.elim
      | nil =>
        cases r with
        | int i =>
          cases r2 with
          | int j => exact ⟨i, j, rfl, sat_here s h (.int _)⟩
          | _ => exact h.elim
        | _ => exact h.elim
theorem c_max2 (hc : X.calm = true) : CallR X (.builtin "max") (rON X.K ca oMax2) := callImp (call_max2 hc) fun xs H Q h => by
  obtain ⟨w, ds, e, s, r, h⟩ := h
  subst e
  obtain ⟨i, j, e, q⟩ := two_ints (k := fun i j => max i j) (fun ds S => rfl) s r h
  refine ⟨i, j, e, ?_⟩
  have e : (if j > i then j else i) = max i j := by split <;> omega
  rw [e]; exact q
theorem c_min2 (hc : X.calm = true) : CallR X (.builtin "min") (rON X.K ca oMin2) := callImp (call_min2 hc) fun xs H Q h => by
  obtain ⟨w, ds, e, s, r, h⟩ := h
  subst e
  obtain ⟨i, j, e, q⟩ := two_ints (k := fun i j => min i j) (fun ds S => rfl) s r h
  refine ⟨i, j, e, ?_⟩
  have e : (if j < i then j else i) = min i j := by split <;> omega
  rw [e]; exact q
theorem c_gcd : CallR X (.builtin "math.gcd") (rON X.K ca oGcd) := callImp cr_gcd fun xs H Q h => by
  obtain ⟨w, ds, e, s, r, h⟩ := h
  subst e
  exact two_ints (k := fun i j => ((Nat.gcd i.natAbs j.natAbs : Nat) : Int)) (fun ds S => rfl) s r h
theorem c_tuple : CallR X (.type "tuple") (rON X.K ca oTuple) := callImp call_tuple_of fun xs H Q h => by
  obtain ⟨w, ds, e, s, r, h⟩ := h
  subst e
  have sq : ∀ {d : D} {v : V}, Rep X.K ca w v d → Sat (match asL d w.S with | some xs => Py.R.ok (.tup xs) w.S | none => .bad) (QV X.K ca w Q) (fun _ _ _ => False) →
      ∃ p ys, [v] = [.ref p] ∧ ((SqL X.K w.H p ys ∧ ∀ l, w.H l = none → Q (.ref l) (upd w.H l (.tup ys))) ∨ (SqT X.K w.H p ys ∧ Q (.ref p) w.H)) := fun {d v} r h => by
    cases q : asL d w.S with
    | none => rw [q] at h; exact h.elim
    | some ys =>
      rw [q] at h
      obtain ⟨a, vs, e, q1, r1⟩ := asL_rep s r q
      subst e
      refine ⟨a, vs, rfl, .inl ⟨.inl (.inl q1), fun l hl => ?_⟩⟩
      have x := Ext.alloc (w := w) (o := .tup vs) hl
      exact h ⟨upd w.H l (.tup vs), w.ρ, w.S⟩ rfl x (s.alloc hl) (.ref l) (.tup (.inl (.inl upd_same)) (r1.mono x s))
  unfold oTuple at h
  cases r with
  | nil => exact h.elim
  | cons r t =>
    cases t with
    | cons _ _ => cases r <;> exact h.elim
    | nil =>
      cases r with
      | @tup a vs ds hq ra => exact ⟨a, vs, rfl, .inr ⟨hq, sat_here s h (.tup hq ra)⟩⟩
      | non => exact sq .non h
      | bl b => exact sq (.bl b) h
      | int i => exact sq (.int i) h
      | str x => exact sq (.str x) h
      | lst a b c => exact sq (.lst a b c) h
      | ref a => exact sq (.ref a) h
      | fls a => exact sq (.fls a) h
      | dct a b c d => exact sq (.dct a b c d) h
      | exc a b c d e => exact sq (.exc a b c d e) h
theorem c_list : CallR X (.type "list") (rOF X.K ca oList) := callImp call_list_of fun xs H Q h => by
  obtain ⟨w, ds, e, s, r, h⟩ := h
  subst e
  unfold oList at h
  cases r with
  | nil => exact h.elim
  | @cons v d _ _ r t =>
    cases t with
    | cons _ _ => exact h.elim
    | nil =>
      dsimp only at h
      cases q : asSq d w.S with
      | none => rw [q] at h; exact h.elim
      | some ys =>
        rw [q] at h
        obtain ⟨a, vs, e, q1, r1⟩ := asSq_rep s r q
        subst e
        refine ⟨a, vs, rfl, ?_, fun l hl => h w rfl (.refl w) s vs l r1 hl⟩
        rcases q1 with q1 | q1
        · exact .inl q1
        · exact .inr q1
/-- of a list of ints -/
theorem one_list {w : Wd} {xs : List V} {ds : List D} {Q : VK} {α : Type} {isA : List D → Option (List α)} {mk : α → V} {k : List α → Py.R D}
    (hA : ∀ {vs : List V} {ds : List D} {ns : List α}, RepL X.K ca w vs ds → isA ds = some ns → vs = ns.map mk) (s : SOk X.K ca w) (r : RepL X.K ca w xs ds)
    (h : Sat (lst1 isA k ds w.S) (QV X.K ca w Q) fun _ _ _ => False) :
    ∃ a ns, xs = [V.ref a] ∧ SqL X.K w.H a (ns.map mk) ∧ Sat (k ns) (QV X.K ca w Q) fun _ _ _ => False := by
  unfold lst1 at h
  cases r with
  | nil => exact h.elim
  | @cons v d _ _ r t =>
    cases t with
    | cons _ _ => exact h.elim
    | nil =>
      dsimp only at h
      cases q : asL d w.S with
      | none => rw [q] at h; exact h.elim
      | some ys =>
        rw [q] at h
        obtain ⟨a, vs, e, q1, r1⟩ := asL_rep s r q
        subst e
        cases q2 : isA ys with
        | none => rw [Option.bind_some, q2] at h; exact h.elim
        | some ns =>
          rw [Option.bind_some, q2] at h
          refine ⟨a, ns, rfl, ?_, h⟩
          rw [← hA r1 q2]
          exact .inl (.inl q1)
theorem c_sum (hc : X.calm = true) : CallR X (.builtin "sum") (rON X.K ca oSum) := callImp (cr_sum hc) fun xs H Q h => by
  obtain ⟨w, ds, e, s, r, h⟩ := h
  subst e
  obtain ⟨a, ns, e, q, h⟩ := one_list isInts_rep s r h
  exact ⟨a, ns, e, q, sat_here s h (.int _)⟩
theorem c_all (hc : X.calm = true) : CallR X (.builtin "all") (rON X.K ca oAll) := callImp (cr_all hc) fun xs H Q h => by
  obtain ⟨w, ds, e, s, r, h⟩ := h
  subst e
  obtain ⟨a, ns, e, q, h⟩ := one_list isBls_rep s r h
  exact ⟨a, ns, e, q, sat_here s h (.bl _)⟩
theorem c_any (hc : X.calm = true) : CallR X (.builtin "any") (rON X.K ca oAny) := callImp (cr_any hc) fun xs H Q h => by
  obtain ⟨w, ds, e, s, r, h⟩ := h
  subst e
  obtain ⟨a, ns, e, q, h⟩ := one_list isBls_rep s r h
  exact ⟨a, ns, e, q, sat_here s h (.bl _)⟩
theorem c_maxL (hc : X.calm = true) : CallR X (.builtin "max") (rON X.K ca oMaxL) := callImp (cr_max hc) fun xs H Q h => by
  obtain ⟨w, ds, e, s, r, h⟩ := h
  subst e
  obtain ⟨a, ns, e, q, h⟩ := one_list isInts_rep s r h
  cases ns with
  | nil => exact h.elim
  | cons n ns =>
    have z := maxI_ok (xs := n :: ns) (by simp)
    refine ⟨a, n :: ns, e, q, Nat.succ_pos _, fun m hm hle => ?_⟩
    have e : m = maxI (n :: ns) := Int.le_antisymm (z.2 m hm) (hle _ z.1)
    rw [e]
    exact sat_here s h (.int _)
theorem c_minL (hc : X.calm = true) : CallR X (.builtin "min") (rON X.K ca oMinL) := callImp (cr_min hc) fun xs H Q h => by
  obtain ⟨w, ds, e, s, r, h⟩ := h
  subst e
  obtain ⟨a, ns, e, q, h⟩ := one_list isInts_rep s r h
  cases ns with
  | nil => exact h.elim
  | cons n ns =>
    have z := minI_ok (xs := n :: ns) (by simp)
    refine ⟨a, n :: ns, e, q, Nat.succ_pos _, fun m hm hle => ?_⟩
    have e : m = minI (n :: ns) := Int.le_antisymm (hle _ z.1) (z.2 m hm)
    rw [e]
    exact sat_here s h (.int _)
end
end Py

set_option maxHeartbeats 4000000
/-! PyG: places, slices, what changes lists, keywords, constants of the module. -/
namespace Py
open PySem PySem.Spec PyProof.Rows L2

/-! ### d[i] -/
def oIdx : Op2 := fun a b S => match a, b with
  | .str z, .int i => if z.length ≤ sizeLine then (match atI z.cps.toList i with | some c => .ok (.str ⟨#[c]⟩) S | none => .bad) else .bad
  | d, .int i => (match (asSq d S).bind (atI · i) with | some v => .ok v S | none => .bad)
  | _, _ => .bad
theorem m_idx : Mute2 oIdx := by
  intro a b S c v S' h; revert h; unfold oIdx; split <;> (try split) <;> (try split) <;> simp
section
variable {X : Cx} {ca : Nat → Addr} {W : WX} {pos p : Pos} {f g h : Den} {gs hs : Dens} {a b e : Expr} {es : List Expr} {w : Wd}
theorem RepL.atI : ∀ {vs : List V} {ds : List D} {i : Int} {d : D}, RepL X.K ca w vs ds → L2.atI ds i = some d → ∃ v, L2.atI vs i = some v ∧ Rep X.K ca w v d := fun {vs ds i d} r h => by
  unfold L2.atI at h ⊢
  rw [r.length]
  cases q : ixN ds.length i with
  | none => rw [q] at h; cases h
  | some j =>
    rw [q] at h
    exact r.get h
theorem r_idx : IxR X (rO2 X.K ca oIdx) := by
  intro value slice pins s σ H x y v u Q I rx ry h hs
  refine ix_seq value slice pins s σ H x y v u Q I rx ry ?_ hs
  obtain ⟨w, dx, dy, e, sk, r1, r2, q⟩ := h
  subst e
  unfold oIdx at q
  have sq : ∀ {i : Int}, Rep X.K ca w x dx → y = .int i → Sat (match (asSq dx w.S).bind (L2.atI · i) with | some v => Py.R.ok v w.S | none => .bad) (QV X.K ca w Q) (fun _ _ _ => False) → rIx X.K x y w.H Q := fun {i} r ey h => by
    cases q : asSq dx w.S with
    | none => rw [q] at h; exact h.elim
    | some ys =>
      rw [q] at h
      rw [Option.bind_some] at h
      cases q2 : L2.atI ys i with
      | none => rw [q2] at h; exact h.elim
      | some d =>
        rw [q2] at h
        obtain ⟨a, vs, e, q1, r1⟩ := asSq_rep sk r q
        obtain ⟨v, hv, rv⟩ := r1.atI q2
        rcases q1 with q1 | q1
        · exact .inl ⟨a, vs, i, v, e, ey, q1, hv, sat_here sk h rv⟩
        · exact .inr (.inl ⟨a, vs, i, v, e, ey, q1, hv, sat_here sk h rv⟩)
  cases r2 with
  | int i =>
    cases r1 with
    | str z =>
      dsimp only at q
      by_cases hl : z.length ≤ sizeLine
      · rw [if_pos hl] at q
        cases q2 : L2.atI z.cps.toList i with
        | none => rw [q2] at q; exact q.elim
        | some c =>
          rw [q2] at q
          exact .inr (.inr ⟨z, i, c, rfl, rfl, hl, q2, sat_here sk q (.str _)⟩)
      · rw [if_neg hl] at q
        exact q.elim
    | non => exact sq .non rfl q
    | bl b => exact sq (.bl b) rfl q
    | int i => exact sq (.int i) rfl q
    | tup a b => exact sq (.tup a b) rfl q
    | lst a b c => exact sq (.lst a b c) rfl q
    | ref a => exact sq (.ref a) rfl q
    | fls a => exact sq (.fls a) rfl q
    | dct a b c d => exact sq (.dct a b c d) rfl q
    | exc a b c d e => exact sq (.exc a b c d e) rfl q
  | _ => cases r1 <;> exact q.elim
theorem e_idx (ha : PE X a (tE X.K ca W f)) (hb : PE X b (tE X.K ca W g)) (hs : PlainIx b) : PE X (.Subscript a b pos) (tE X.K ca W (eBin oIdx f g)) :=
  PE.imp (pe_ix r_idx ha hb hs) fun _ _ _ h => bin_imp m_idx h
end

/-! ### d[i:j] -/
def cutD (xs : List D) (lo hi : Option Int) : List D := (xs.drop (HT.sIx xs.length 0 lo)).take (HT.sIx xs.length xs.length hi - HT.sIx xs.length 0 lo)
abbrev DenO := Env → Store → R (Option Int)
def oNo : DenO := fun _ S => .ok none S
def oPart (f : Den) : DenO := fun e S => (f e S).bind fun d S1 => match d with | .int i => .ok (some i) S1 | _ => .bad
/-- of a tuple, of a list (as a value) -/
def eSl (f : Den) (lo hi : DenO) : Den := fun e S => (f e S).bind fun d S1 => (lo e S1).bind fun l S2 => (hi e S2).bind fun u S3 => match d with
  | .tup xs => .ok (.tup (cutD xs l u)) S3
  | .str z => if z.length ≤ sizeLine then .ok (.str (cutS z l u)) S3 else .bad
  | d => (match asL d S3 with | some xs => .ok (.lst (cutD xs l u)) S3 | none => .bad)
/-- of a list, to be changed -/
def dSl (f : Den) (lo hi : DenO) : Dens := fun e S => (f e S).bind fun d S1 => (lo e S1).bind fun l S2 => (hi e S2).bind fun u S3 =>
  match asL d S3 with | some xs => .ok (cutD xs l u) S3 | none => .bad
section
variable {X : Cx} {ca : Nat → Addr} {W : WX} {pos p p2 : Pos} {f g h : Den} {gs hs : Dens} {a b e : Expr} {es : List Expr} {w : Wd} {lo hi : Option Expr} {l u : DenO}
def QO (w : Wd) (K : PySem.W.Frag) (ca : Nat → Addr) (Q : Option Int → Hp → Prop) : Option Int → Store → Prop := fun o S => Aft K ca w S fun w' => Q o w'.H
def tO (K : PySem.W.Frag) (ca : Nat → Addr) (W : WX) (l : DenO) : TO := fun σ H Q => ∃ w env, w.H = H ∧ SOk K ca w ∧ Sim K ca w env σ ∧ Sat (l env w.S) (QO w K ca Q) (QE K ca w W σ)
theorem o_none : PO X none (tO X.K ca W oNo) := ⟨fun pins s σ H Q I h => po_none.run pins s σ H Q I (by
  obtain ⟨w, env, e, s, m, h⟩ := h
  subst e
  exact Aft.here (w' := w) h (.refl w) s)⟩
theorem o_some (ha : PE X a (tE X.K ca W f)) : PO X (some a) (tO X.K ca W (oPart f)) := ⟨fun pins s σ H Q I h => (po_some ha).run pins s σ H Q I (by
  obtain ⟨w, env, e, s, m, h⟩ := h
  refine ⟨w, env, e, s, m, (Sat.bind h).mono (fun d S1 q => ?_) fun _ _ _ q => q⟩
  intro w1 hS x s1 v r
  cases r with
  | int i => exact ⟨i, rfl, q w1 hS x s1⟩
  | _ => exact q.elim)⟩
theorem tO_bind {l : DenO} {σ : St} {H : Hp} {β : Type} {k : Option Int → Store → Py.R β} {w : Wd} {env : Env} {Qb : Wd → β → Store → Prop} {R : Option Int → Hp → Prop}
    (e : w.H = H) (s : SOk X.K ca w) (m : Sim X.K ca w env σ) (h : Sat ((l env w.S).bind k) (Qb w) (QE X.K ca w W σ))
    (hl : ∀ {w' : Wd} {b : β} {S : Store}, Ext w w' → Qb w b S → Qb w' b S)
    (hr : ∀ w1 b, SOk X.K ca w1 → Sim X.K ca w1 env σ → Ext w w1 → Sat (k b w1.S) (Qb w1) (QE X.K ca w1 W σ) → R b w1.H) :
    tO X.K ca W l σ H R := by
  refine ⟨w, env, e, s, m, (Sat.bind h).mono (fun d S1 q => ?_) fun c v S q => q⟩
  intro w1 hS e1 s1
  subst hS
  exact hr w1 d s1 (m.mono e1 s) e1 (q.mono (fun b S z => hl e1 z) fun c v S z => QE.later e1 z)
theorem RepL.cut {vs : List V} {ds : List D} (r : RepL X.K ca w vs ds) (lo hi : Option Int) : RepL X.K ca w (cutV vs lo hi) (cutD ds lo hi) := by
  unfold cutV cutD
  rw [r.length]
  exact (r.drop _).take _
theorem cut_all {xs : List D} {lo hi : Option Int} (h : HT.sIx xs.length 0 lo = 0 ∧ HT.sIx xs.length xs.length hi = xs.length) : cutD xs lo hi = xs := by
  unfold cutD
  rw [h.1, h.2, List.drop_zero, Nat.sub_zero, List.take_length]
theorem e_sl (ha : PE X a (tE X.K ca W f)) (hl : PO X lo (tO X.K ca W l)) (hu : PO X hi (tO X.K ca W u)) : PE X (.Subscript a (.Slice lo hi none p2) pos) (tE X.K ca W (eSl f l u)) :=
  PE.imp (pe_slice (sl_tupA.or (sl_list.or sl_str)) ha hl hu) fun σ H Q ⟨w, env, e, s, m, h⟩ => by
    refine tE_bind (Qb := fun w => QV X.K ca w Q) e s m h (fun e q => QV.later e q) fun w1 d v s1 m1 r e1 h1 => ?_
    refine tO_bind (Qb := fun w => QV X.K ca w Q) rfl s1 m1 h1 (fun e q => QV.later e q) fun w2 l s2 m2 e2 h2 => ?_
    refine tO_bind (Qb := fun w => QV X.K ca w Q) rfl s2 m2 h2 (fun e q => QV.later e q) fun w3 u s3 m3 e3 h3 => ?_
    have r3 := (r.mono e2 s1).mono e3 s2
    have lists : Sat (match asL d w3.S with | some xs => Py.R.ok (.lst (cutD xs l u)) w3.S | none => .bad) (QV X.K ca w3 Q) (QE X.K ca w3 W σ) → rSlL X.K v l u w3.H Q := fun h => by
      cases q : asL d w3.S with
      | none => rw [q] at h; exact h.elim
      | some ys =>
        rw [q] at h
        obtain ⟨b, vs, e, q1, r1⟩ := asL_rep s3 r3 q
        refine ⟨b, vs, e, .inl (.inl q1), fun p hp => ?_⟩
        have x := Ext.alloc (w := w3) (o := .lst (cutV vs l u)) hp
        exact h ⟨upd w3.H p (.lst (cutV vs l u)), w3.ρ, w3.S⟩ rfl x (s3.alloc hp) (.ref p) (.lst upd_same (fun m => s3.notM0 hp m) ((r1.cut l u).mono x s3))
    cases r3 with
    | @tup b vs ds hq ra =>
      refine .inl ⟨b, vs, rfl, hq, fun hz => ?_, fun hz p hp => ?_⟩
      · rw [ra.length] at hz
        have h3' : QV X.K ca w3 Q (.tup (cutD ds l u)) w3.S := h3
        rw [cut_all hz] at h3'
        exact sat_here s3 h3' (.tup hq ra)
      · have x := Ext.alloc (w := w3) (o := .tup (cutV vs l u)) hp
        exact h3 ⟨upd w3.H p (.tup (cutV vs l u)), w3.ρ, w3.S⟩ rfl x (s3.alloc hp) (.ref p) (.tup (.inl (.inl upd_same)) ((ra.cut l u).mono x s3))
    | non => exact .inr (.inl (lists h3))
    | bl b => exact .inr (.inl (lists h3))
    | int i => exact .inr (.inl (lists h3))
    | str z =>
      by_cases hz : z.length ≤ sizeLine
      · have h3' : Sat (if z.length ≤ sizeLine then Py.R.ok (.str (cutS z l u)) w3.S else .bad) (QV X.K ca w3 Q) (QE X.K ca w3 W σ) := h3
        rw [if_pos hz] at h3'
        exact .inr (.inr ⟨z, rfl, hz, sat_here s3 h3' (.str _)⟩)
      · have h3' : Sat (if z.length ≤ sizeLine then Py.R.ok (.str (cutS z l u)) w3.S else .bad) (QV X.K ca w3 Q) (QE X.K ca w3 W σ) := h3
        rw [if_neg hz] at h3'
        exact h3'.elim
    | lst a b c => exact .inr (.inl (lists h3))
    | ref a => exact .inr (.inl (lists h3))
    | fls a => exact .inr (.inl (lists h3))
    | dct a b c d => exact .inr (.inl (lists h3))
    | exc a b c d e => exact .inr (.inl (lists h3))
theorem f_sl (ha : PE X a (tE X.K ca W f)) (hl : PO X lo (tO X.K ca W l)) (hu : PO X hi (tO X.K ca W u)) : PE X (.Subscript a (.Slice lo hi none p2) pos) (tF X.K ca W (dSl f l u)) :=
  PE.imp (pe_slice sl_list ha hl hu) fun σ H Q ⟨w, env, e, s, m, h⟩ => by
    refine tE_bind (Qb := fun w => QF X.K ca w Q) e s m h (fun e q => QF.later e q) fun w1 d v s1 m1 r e1 h1 => ?_
    refine tO_bind (Qb := fun w => QF X.K ca w Q) rfl s1 m1 h1 (fun e q => QF.later e q) fun w2 l s2 m2 e2 h2 => ?_
    refine tO_bind (Qb := fun w => QF X.K ca w Q) rfl s2 m2 h2 (fun e q => QF.later e q) fun w3 u s3 m3 e3 h => ?_
    have r3 := (r.mono e2 s1).mono e3 s2
    cases q : asL d w3.S with
    | none => rw [q] at h; exact h.elim
    | some ys =>
      rw [q] at h
      obtain ⟨b, vs, e, q1, r1⟩ := asL_rep s3 r3 q
      exact ⟨b, vs, e, .inl (.inl q1), fun p hp => h w3 rfl (.refl w3) s3 _ p (r1.cut l u) hp⟩
end

/-! ### lists put together -/
/-- + of lists: as a value -/
def oCat : Op2 := fun a b S => match a, b with
  | .int i, .int j => .ok (.int (i + j)) S
  | a, b => (match asL a S, asL b S with
    | some xs, some ys => if xs.length + ys.length ≤ sizeLine then .ok (.lst (xs ++ ys)) S else .bad
    | _, _ => oAdd a b S)
def dCat (f g : Den) : Dens := fun e S => (f e S).bind fun a S1 => (g e S1).bind fun b S2 => match asL a S2, asL b S2 with
  | some xs, some ys => if xs.length + ys.length ≤ sizeLine then .ok (xs ++ ys) S2 else .bad
  | _, _ => .bad
theorem m_cat : Mute2 oCat := by
  intro a b S c v S' h; revert h; unfold oCat
  split
  · simp
  · split
    · split <;> simp
    · exact m_add a b S c v S'
/-- n times -/
def repD (n : Nat) (xs : List D) : List D := (List.replicate n xs).flatten
def repOk (xs : List D) (k : Int) : Bool := decide (-(2 ^ 63) ≤ k) && (decide (k < 2 ^ 63) && decide (xs.length * k.toNat ≤ sizeLine))
def dRep (f g : Den) : Dens := fun e S => (f e S).bind fun a S1 => (g e S1).bind fun b S2 => match asL a S2, b with
  | some xs, .int k => if repOk xs k then .ok (repD k.toNat xs) S2 else .bad
  | _, _ => .bad
def repTOk (xs : List D) (k : Int) : Bool := decide (xs ≠ [] ∧ 2 ≤ k ∧ k ≤ 1000 ∧ xs.length ≤ 1000)
/-- * : numbers, a list (as a value), a tuple -/
def oRep : Op2 := fun a b S => match a, b with
  | .int i, .int j => if mulOk i j then .ok (.int (i * j)) S else .bad
  | .tup xs, .int k => if xs.length = 0 then .bad else if 2 ≤ k ∧ k ≤ 1000 ∧ xs.length ≤ 1000 then .ok (.tup (repD k.toNat xs)) S else .bad
  | a, .int k => (match asL a S with | some xs => if repOk xs k then .ok (.lst (repD k.toNat xs)) S else .bad | none => .bad)
  | _, _ => .bad
theorem m_rep : Mute2 oRep := by
  intro a b S c v S' h; revert h; unfold oRep
  split <;> (try split) <;> (try split) <;> simp
section
variable {X : Cx} {ca : Nat → Addr} {W : WX} {pos p p2 : Pos} {f g h : Den} {a b e : Expr} {w : Wd}
theorem opOr {F : Value → Value → Sem Value} {r r' : R2} (h : OpR X F r) (h' : OpR X F r') : OpR X F (fun x y H Q => r x y H Q ∨ r' x y H Q) := by
  intro pins s σ H x y v u Q I rx ry q
  rcases q with q | q
  · exact h pins s σ H x y v u Q I rx ry q
  · exact h' pins s σ H x y v u Q I rx ry q
theorem r_cat : OpR X (binaryOp .Add) (rO2 X.K ca oCat) := opImp (opOr (r_add (ca := ca)) op_cat) fun x y H Q h => by
  obtain ⟨w, dx, dy, e, sk, r1, r2, q⟩ := h
  subst e
  unfold oCat at q
  split at q
  · exact .inl ⟨w, _, _, rfl, sk, r1, r2, q⟩
  · split at q
    · rename_i xs ys q1 q2
      by_cases hl : xs.length + ys.length ≤ sizeLine
      · rw [if_pos hl] at q
        obtain ⟨a, vs, e, h1, ra⟩ := asL_rep sk r1 q1
        obtain ⟨b, us, e2, h2, rb⟩ := asL_rep sk r2 q2
        refine .inr ⟨a, b, vs, us, e, e2, h1, h2, by rw [ra.length, rb.length]; exact hl, fun p hp => ?_⟩
        have x := Ext.alloc (w := w) (o := .lst (vs ++ us)) hp
        exact q ⟨upd w.H p (.lst (vs ++ us)), w.ρ, w.S⟩ rfl x (sk.alloc hp) (.ref p) (.lst upd_same (fun m => sk.notM0 hp m) ((ra.append rb).mono x sk))
      · rw [if_neg hl] at q
        exact q.elim
    · exact .inl ⟨w, _, _, rfl, sk, r1, r2, q⟩
theorem RepL.rep {vs : List V} {ds : List D} (r : RepL X.K ca w vs ds) : ∀ n : Nat, RepL X.K ca w (List.replicate n vs).flatten (repD n ds)
  | 0 => .nil
  | n + 1 => by
    unfold repD
    rw [List.replicate_succ, List.replicate_succ, List.flatten_cons, List.flatten_cons]
    exact r.append (r.rep n)
theorem r_rep : OpR X (binaryOp .Mult) (rO2 X.K ca oRep) := opImp (opOr (opOr (r_mul (ca := ca)) op_rep) op_repT) fun x y H Q h => by
  obtain ⟨w, dx, dy, e, sk, r1, r2, q⟩ := h
  subst e
  have lists : ∀ {k : Int}, y = .int k → Sat (match asL dx w.S with | some xs => if repOk xs k then Py.R.ok (.lst (repD k.toNat xs)) w.S else .bad | none => .bad) (QV X.K ca w Q) (fun _ _ _ => False) → rRep x y w.H Q := fun {k} ey q => by
    cases q1 : asL dx w.S with
    | none => rw [q1] at q; exact q.elim
    | some xs =>
      rw [q1] at q
      dsimp only at q
      by_cases hl : repOk xs k = true
      · rw [if_pos hl] at q
        unfold repOk at hl
        rw [Bool.and_eq_true, Bool.and_eq_true] at hl
        obtain ⟨a, vs, e, h1, ra⟩ := asL_rep sk r1 q1
        refine ⟨a, k, vs, e, ey, h1, of_decide_eq_true hl.1, of_decide_eq_true hl.2.1, by rw [ra.length]; exact of_decide_eq_true hl.2.2, fun p hp => ?_⟩
        have x := Ext.alloc (w := w) (o := .lst (List.replicate k.toNat vs).flatten) hp
        exact q ⟨upd w.H p (.lst (List.replicate k.toNat vs).flatten), w.ρ, w.S⟩ rfl x (sk.alloc hp) (.ref p) (.lst upd_same (fun m => sk.notM0 hp m) ((ra.rep _).mono x sk))
      · rw [if_neg hl] at q
        exact q.elim
  unfold oRep at q
  cases r2 with
  | int k =>
    cases r1 with
    | int i => exact .inl (.inl ⟨w, _, _, rfl, sk, .int i, .int k, q⟩)
    | @tup a vs ds hq ra =>
      dsimp only at q
      by_cases h0 : ds.length = 0
      · rw [if_pos h0] at q; exact q.elim
      · rw [if_neg h0] at q
        by_cases hk : 2 ≤ k ∧ k ≤ 1000 ∧ ds.length ≤ 1000
        · rw [if_pos hk] at q
          refine .inr ⟨a, k, vs, rfl, rfl, hq, fun z => h0 (by rw [← ra.length, z]; rfl), hk.1, hk.2.1, by rw [ra.length]; exact hk.2.2, fun p hp => ?_⟩
          have x := Ext.alloc (w := w) (o := .tup (List.replicate k.toNat vs).flatten) hp
          exact q ⟨upd w.H p (.tup (List.replicate k.toNat vs).flatten), w.ρ, w.S⟩ rfl x (sk.alloc hp) (.ref p) (.tup (.inl (.inl upd_same)) ((ra.rep _).mono x sk))
        · rw [if_neg hk] at q; exact q.elim
    | non => exact .inl (.inr (lists rfl q))
    | bl b => exact .inl (.inr (lists rfl q))
    | str x => exact .inl (.inr (lists rfl q))
    | lst a b c => exact .inl (.inr (lists rfl q))
    | ref a => exact .inl (.inr (lists rfl q))
    | fls a => exact .inl (.inr (lists rfl q))
    | dct a b c d => exact .inl (.inr (lists rfl q))
    | exc a b c d e => exact .inl (.inr (lists rfl q))
  | _ => cases r1 <;> exact q.elim
theorem f_cat (ha : PE X a (tE X.K ca W f)) (hb : PE X b (tE X.K ca W g)) : PE X (.BinOp a .Add b pos) (tF X.K ca W (dCat f g)) := PE.imp (pe_op op_cat ha hb) fun σ H Q ⟨w, env, e, s, m, h⟩ => by
  refine tE_bind (Qb := fun w => QF X.K ca w Q) e s m h (fun e q => QF.later e q) fun w1 d v s1 m1 r e1 h1 => ?_
  refine tE_bind (Qb := fun w => QF X.K ca w Q) rfl s1 m1 h1 (fun e q => QF.later e q) fun w2 d2 v2 s2 m2 r2 e2 h2 => ?_
  have r3 := r.mono e2 s1
  cases q1 : asL d w2.S with
  | none => rw [q1] at h2; exact h2.elim
  | some xs =>
    cases q2 : asL d2 w2.S with
    | none => rw [q1, q2] at h2; exact h2.elim
    | some ys =>
      rw [q1, q2] at h2
      dsimp only at h2
      by_cases hl : xs.length + ys.length ≤ sizeLine
      · rw [if_pos hl] at h2
        obtain ⟨a, vs, e, h1, ra⟩ := asL_rep s2 r3 q1
        obtain ⟨b, us, e2, h3, rb⟩ := asL_rep s2 r2 q2
        exact ⟨a, b, vs, us, e, e2, h1, h3, by rw [ra.length, rb.length]; exact hl, fun p hp => h2 w2 rfl (.refl w2) s2 _ p (ra.append rb) hp⟩
      · rw [if_neg hl] at h2
        exact h2.elim
theorem f_rep (ha : PE X a (tE X.K ca W f)) (hb : PE X b (tE X.K ca W g)) : PE X (.BinOp a .Mult b pos) (tF X.K ca W (dRep f g)) := PE.imp (pe_op op_rep ha hb) fun σ H Q ⟨w, env, e, s, m, h⟩ => by
  refine tE_bind (Qb := fun w => QF X.K ca w Q) e s m h (fun e q => QF.later e q) fun w1 d v s1 m1 r e1 h1 => ?_
  refine tE_bind (Qb := fun w => QF X.K ca w Q) rfl s1 m1 h1 (fun e q => QF.later e q) fun w2 d2 v2 s2 m2 r2 e2 h2 => ?_
  have r3 := r.mono e2 s1
  cases q1 : asL d w2.S with
  | none => rw [q1] at h2; exact h2.elim
  | some xs =>
    rw [q1] at h2
    cases r2 with
    | int k =>
      dsimp only at h2
      by_cases hl : repOk xs k = true
      · rw [if_pos hl] at h2
        unfold repOk at hl
        rw [Bool.and_eq_true, Bool.and_eq_true] at hl
        obtain ⟨a, vs, e, h1, ra⟩ := asL_rep s2 r3 q1
        exact ⟨a, k, vs, e, rfl, h1, of_decide_eq_true hl.1, of_decide_eq_true hl.2.1, by rw [ra.length]; exact of_decide_eq_true hl.2.2, fun p hp => h2 w2 rfl (.refl w2) s2 _ p (ra.rep _) hp⟩
      · rw [if_neg hl] at h2
        exact h2.elim
    | _ => exact h2.elim
end
end Py

set_option maxHeartbeats 4000000
/-! PyH: what changes lists, membership, calls with keywords, constants of the module. -/
namespace Py
open PySem PySem.Spec PyProof.Rows L2

/-! ### a list of the store is changed -/
/-- by k: what it then holds, and what is told -/
def chg (k : List D → Option (List D × D)) (d : D) (S : Store) : R D := match d with
  | .ref n => (match S[n]? with
    | some (.lst xs) => (match k xs with | some (ys, r) => .ok r (S.set n (.lst ys)) | none => .bad)
    | _ => .bad)
  | _ => .bad
theorem chg_mute {k : List D → Option (List D × D)} {d : D} {S : Store} {c : Nat} {v : D} {S' : Store} : chg k d S ≠ .err c v S' := by
  unfold chg
  split
  · split
    · split <;> simp
    · simp
  · simp
section
variable {X : Cx} {ca : Nat → Addr} {W : WX} {pos p apos : Pos} {f g h o i : Den} {gs hs : Dens} {a b e eo ei : Expr} {es : List Expr} {w : Wd}
theorem chg_ext {n : Nat} {xs ys : List D} {vs : List V} (s : SOk X.K ca w) (h : w.S[n]? = some (.lst xs)) (r : RepL X.K ca w vs ys) :
    let w' : Wd := ⟨upd w.H (w.ρ n) (.lst vs), w.ρ, w.S.set n (.lst ys)⟩
    Ext w w' ∧ SOk X.K ca w' := by
  intro w'
  have hM : w.M (w.ρ n) := ⟨n, xs, h, rfl⟩
  have hn : n < w.S.length := (List.getElem?_eq_some_iff.mp h).1
  have old : ∀ m zs, w'.S[m]? = some (.lst zs) → m = n ∨ w.S[m]? = some (.lst zs) := fun m zs q => by
    by_cases e : m = n
    · exact .inl e
    · refine .inr ?_
      have q' : (w.S.set n (.lst ys))[m]? = some (.lst zs) := q
      rwa [List.getElem?_set_ne (Ne.symm e)] at q'
  have x : Ext w w' := {
    keep := fun a o q nM => by
      have : a ≠ w.ρ n := fun z => nM (by rw [z]; exact hM)
      show upd w.H (w.ρ n) (.lst vs) a = some o
      rw [upd_ne this]; exact q
    fresh := fun a m => by
      obtain ⟨k, zs, q, e⟩ := m
      rcases old k zs q with rfl | q
      · exact .inl (by rw [← e]; exact hM)
      · exact .inl ⟨k, zs, q, e⟩
    rho := fun _ _ => rfl
    len := by show w.S.length ≤ (w.S.set n (.lst ys)).length; rw [List.length_set]; exact Nat.le_refl _ }
  refine ⟨x, ?_, ?_⟩
  · intro m zs q
    by_cases e : m = n
    · subst e
      have q' : (w.S.set m (.lst ys))[m]? = some (.lst zs) := q
      rw [List.getElem?_set_self hn] at q'
      have e2 : O.lst ys = O.lst zs := Option.some.inj q'
      injection e2 with e2
      subst e2
      exact ⟨vs, upd_same, r.mono x s⟩
    · rcases old m zs q with z | q0
      · exact absurd z e
      · obtain ⟨us, hu, ru⟩ := s.live m zs q0
        refine ⟨us, ?_, ru.mono x s⟩
        show upd w.H (w.ρ n) (.lst vs) (w.ρ m) = _
        rw [upd_ne (fun z => e (s.inj m n zs xs q0 h z))]
        exact hu
  · intro m k zs us q1 q2 e
    have one : ∀ m zs, w'.S[m]? = some (O.lst zs) → ∃ ts, w.S[m]? = some (O.lst ts) := fun m zs q => by
      rcases old m zs q with rfl | q
      · exact ⟨_, h⟩
      · exact ⟨_, q⟩
    obtain ⟨t1, k1⟩ := one m zs q1
    obtain ⟨t2, k2⟩ := one k us q2
    exact s.inj m k t1 t2 k1 k2 e
theorem chg_of {k : List D → Option (List D × D)} {d : D} {v : V} {Q : D → Store → Prop} {E : Nat → D → Store → Prop} (s : SOk X.K ca w) (r : Rep X.K ca w v d) (h : Sat (chg k d w.S) Q E) :
    ∃ n xs ys z vs, v = .ref (w.ρ n) ∧ w.S[n]? = some (.lst xs) ∧ w.H (w.ρ n) = some (.lst vs) ∧ RepL X.K ca w vs xs ∧ k xs = some (ys, z) ∧ Q z (w.S.set n (.lst ys)) := by
  unfold chg at h
  cases r with
  | @ref n hn =>
    dsimp only at h
    cases q : w.S[n]? with
    | none => rw [q] at h; exact h.elim
    | some o =>
      cases o with
      | dead => rw [q] at h; exact h.elim
      | lst xs =>
        rw [q] at h
        dsimp only at h
        cases q2 : k xs with
        | none => rw [q2] at h; exact h.elim
        | some yz =>
          obtain ⟨ys, z⟩ := yz
          rw [q2] at h
          obtain ⟨vs, hv, rv⟩ := s.live n xs q
          exact ⟨n, xs, ys, z, vs, rfl, q, hv, rv, q2, h⟩
  | _ => exact h.elim
end
def kSet (i v : D) : List D → Option (List D × D) := fun xs => match i with | .int j => (ixN xs.length j).map fun m => (xs.set m v, .non) | _ => none
def kApp (v : D) : List D → Option (List D × D) := fun xs => if xs.length < sizeLine then some (xs ++ [v], .non) else none
def kPop : List D → Option (List D × D) := fun xs => xs.getLast?.map fun v => (xs.dropLast, v)
def kPopAt (i : D) : List D → Option (List D × D) := fun xs => match i with | .int j => if inR j then (ixN xs.length j).bind fun m => xs[m]?.map fun v => (xs.eraseIdx m, v) else none | _ => none
def kIns (i v : D) : List D → Option (List D × D) := fun xs => match i with | .int j => if xs.length < sizeLine ∧ 0 ≤ j ∧ j < 2 ^ 62 then some (xs.take j.toNat ++ [v] ++ xs.drop j.toNat, .non) else none | _ => none
def kExt (zs : List D) : List D → Option (List D × D) := fun xs => if xs.length + zs.length ≤ sizeLine then some (xs ++ zs, .non) else none
/-- o[i] = v: v, o, i in this order -/
def eSetI (f o i : Den) : Den := fun e S => (f e S).bind fun v S1 => (o e S1).bind fun d S2 => (i e S2).bind fun k S3 => chg (kSet k v) d S3
def eApp (o f : Den) : Den := fun e S => (o e S).bind fun d S1 => (f e S1).bind fun v S2 => chg (kApp v) d S2
def ePop (o : Den) : Den := fun e S => (o e S).bind fun d S1 => chg kPop d S1
def ePopAt (o i : Den) : Den := fun e S => (o e S).bind fun d S1 => (i e S1).bind fun k S2 => chg (kPopAt k) d S2
def eIns (o i f : Den) : Den := fun e S => (o e S).bind fun d S1 => (i e S1).bind fun k S2 => (f e S2).bind fun v S3 => chg (kIns k v) d S3
def eExt (o f : Den) : Den := fun e S => (o e S).bind fun d S1 => (f e S1).bind fun v S2 => match asL v S2 with | some zs => chg (kExt zs) d S2 | none => .bad
section
variable {X : Cx} {ca : Nat → Addr} {W : WX} {pos p apos cpos : Pos} {f g h o i : Den} {gs hs : Dens} {a b e eo ei : Expr} {es : List Expr} {w : Wd}
theorem s_setI (ha : PE X a (tE X.K ca W f)) (ho : PE X eo (tE X.K ca W o)) (hi : PE X ei (tE X.K ca W i))
    (has : ∀ v, assign (.Subscript eo ei p) X.env v = (do
      let ov ← holding [v] (eval eo X.env)
      let iv ← holding [v, ov] (eval ei X.env)
      standAt p
      holding [v, ov, iv] (setItem ov iv v)
      release [v, ov, iv] []) := by intro _; rfl)
    (hs : swapsWithSole [.Subscript eo ei p] a pos.line X.env = pure false := by rfl) (hw : swappedStores [.Subscript eo ei p] a X.env = pure none := by rfl)
    (h1 : (assignEach [.Subscript eo ei p] X.env).map (·.2) = [assign (.Subscript eo ei p) X.env] := by rfl) : PS X (.Assign [.Subscript eo ei p] a pos) (tS X.K ca W (sExpr (eSetI f o i))) :=
  PS.imp (ps_asg ha (pg_sub ho hi set_list has) hs hw h1) fun U σ H ⟨w, env, e, s, m, h⟩ => by
    have key : SatS X.K ca (match (f env w.S).bind fun v S1 => (o env S1).bind fun d S2 => (i env S2).bind fun k S3 => chg (kSet k v) d S3 with | .ok d S1 => RS.next env S1 | .err c v S1 => .err c v env S1 | .bad => .bad) w U W := h
    refine tE_then (k := fun v S1 => match ((o env S1).bind fun d S2 => (i env S2).bind fun k S3 => chg (kSet k v) d S3) with | .ok d S1 => RS.next env S1 | .err c v S1 => .err c v env S1 | .bad => .bad) e s m (by
      cases q : f env w.S with
      | ok d S1 => rw [q] at key; exact key
      | err c v S1 => rw [q] at key; exact key
      | bad => rw [q] at key; exact key) fun w1 v vv s1 m1 r1 x1 q1 => ?_
    refine tE_then (f := o) (k := fun d S2 => match ((i env S2).bind fun k S3 => chg (kSet k v) d S3) with | .ok d S1 => RS.next env S1 | .err c v S1 => .err c v env S1 | .bad => .bad) rfl s1 m1 (by
      cases q : o env w1.S with
      | ok d S1 => rw [q] at q1; exact q1
      | err c v S1 => rw [q] at q1; exact q1
      | bad => rw [q] at q1; exact q1) fun w2 d dv s2 m2 r2 x2 q2 => ?_
    refine tE_then (f := i) (k := fun k S3 => match (chg (kSet k v) d S3) with | .ok d S1 => RS.next env S1 | .err c v S1 => .err c v env S1 | .bad => .bad) rfl s2 m2 (by
      cases q : i env w2.S with
      | ok d S1 => rw [q] at q2; exact q2
      | err c v S1 => rw [q] at q2; exact q2
      | bad => rw [q] at q2; exact q2) fun w3 k kv s3 m3 r3 x3 q3 => ?_
    have q4 : Sat (chg (kSet k v) d w3.S) (fun _ S => SatS X.K ca (.next env S) w3 U W) (fun _ _ _ => False) := by
      cases q : chg (kSet k v) d w3.S with
      | ok d S1 => rw [q] at q3; exact q3
      | err c v S1 => exact absurd q chg_mute
      | bad => rw [q] at q3; exact q3
    obtain ⟨n, xs, ys, z, vs, e1, e2, e3, e4, e5, q5⟩ := chg_of s3 (r2.mono x3 s2) q4
    unfold kSet at e5
    cases r3 with
    | int j =>
      dsimp only at e5
      cases q : ixN xs.length j with
      | none => rw [q] at e5; cases e5
      | some t =>
        rw [q] at e5
        cases e5
        refine ⟨_, vs, j, t, e1, rfl, e3, by rw [e4.length]; exact q, ?_⟩
        have rv := (r1.mono x2 s1).mono x3 s2
        obtain ⟨y, sy⟩ := chg_ext (ys := xs.set t v) (vs := vs.set t vv) s3 e2 (e4.set t rv)
        exact q5 _ rfl y sy σ (m3.mono y s3)
    | _ => cases e5
theorem tyL {w : Wd} {a : Addr} {vs : List V} (h : w.H a = some (.lst vs)) : tyV X.K "list" (.ref a) w.H := .inl ⟨rfl, vs, .inl (.inl h)⟩
theorem isL_of {w : Wd} {d : D} {v : V} (s : SOk X.K ca w) (r : Rep X.K ca w v d) (n : Nat) (hd : d = .ref n) (xs : List D) (h : w.S[n]? = some (.lst xs)) : tyV X.K "list" v w.H := by
  subst hd
  cases r with
  | ref hn =>
    obtain ⟨vs, hv, _⟩ := s.live n xs h
    exact tyL (X := X) hv
/-- a receiver that is a list of the store at its own time -/
def rcv (o : Den) : Den := fun e S => (o e S).bind fun d S1 => match d with | .ref n => (match S1[n]? with | some (.lst _) => .ok d S1 | _ => .bad) | _ => .bad
theorem rcv_imp {σ : St} {H : Hp} {Q : VK} (h : tE X.K ca W (rcv o) σ H Q) : tE X.K ca W o σ H fun x H1 => tyV X.K "list" x H1 ∧ Q x H1 := by
  obtain ⟨w, env, e, s, m, h⟩ := h
  refine tE_bind (Qb := fun w => QV X.K ca w Q) e s m h (fun e q => QV.later e q) fun w1 d v s1 m1 r e1 h1 => ?_
  cases r with
  | @ref n hn =>
    dsimp only at h1
    cases q : w1.S[n]? with
    | none => rw [q] at h1; exact h1.elim
    | some u =>
      cases u with
      | dead => rw [q] at h1; exact h1.elim
      | lst xs =>
        rw [q] at h1
        exact ⟨isL_of s1 (.ref hn) n rfl xs q, sat_here s1 h1 (.ref hn)⟩
  | _ => exact h1.elim
theorem e_app (ho : PE X eo (tE X.K ca W o)) (ha : PE X a (tE X.K ca W f))
    (hbase : attributeBase eo "append" X.env (eval eo X.env) = eval eo X.env := by rfl)
    (hfew : ((backTo cpos (starEach [a] X.env)).all (fun x => !x.1) && (backToKw cpos (keywordEach [] X.env)).all (fun x => x.1.isSome)
      && decide ([a].length + ([] : List Keyword).length + (if ([] : List Keyword).isEmpty then 0 else 1) < 30)) = true := by rfl)
    (hline : (apos.endLine == cpos.line) = true := by rfl) (hs : starEach [a] X.env = (false, eval a X.env) :: starEach [] X.env := by rfl) (hplain : (backTo cpos (starEach [] X.env)).any (·.1) = false := by rfl) :
    PE X (.Call (.Attribute eo "append" apos) [a] [] cpos) (tE X.K ca W (eApp (rcv o) f)) :=
  PE.imp (pe_bm PySem.F.plainAttrs_list PySem.F.slot_list_append PySem.F.type_list_append mt_append ho (pa_cons ha pa_nil hs) hbase hfew hline hs hplain) fun σ H Q ⟨w, env, e, s, m, h⟩ => by
    refine rcv_imp (tE_bind (Qb := fun w => QV X.K ca w Q) e s m h (fun e q => QV.later e q) fun w1 d v s1 m1 r e1 h1 => ?_)
    refine tE_bind (Qb := fun w => QV X.K ca w Q) rfl s1 m1 h1 (fun e q => QV.later e q) fun w2 d2 v2 s2 m2 r2 e2 h2 => ?_
    obtain ⟨n, xs, ys, z, vs, k1, k2, k3, k4, k5, q5⟩ := chg_of s2 (r.mono e2 s1) h2
    unfold kApp at k5
    by_cases hl : xs.length < sizeLine
    · rw [if_pos hl] at k5
      cases k5
      refine ⟨_, vs, v2, k1, rfl, k3, by rw [k4.length]; exact hl, ?_⟩
      obtain ⟨y, sy⟩ := chg_ext (ys := xs ++ [d2]) (vs := vs ++ [v2]) s2 k2 (k4.append (.cons r2 .nil))
      exact q5 _ rfl y sy .non .non
    · rw [if_neg hl] at k5
      cases k5
theorem e_pop (ho : PE X eo (tE X.K ca W o))
    (hbase : attributeBase eo "pop" X.env (eval eo X.env) = eval eo X.env := by rfl) (hline : (apos.endLine == cpos.line) = true := by rfl) :
    PE X (.Call (.Attribute eo "pop" apos) [] [] cpos) (tE X.K ca W (ePop o)) :=
  PE.imp (pe_bm0 PySem.F.plainAttrs_list PySem.F.slot_list_pop PySem.F.type_list_pop mt_pop ho hbase hline) fun σ H Q ⟨w, env, e, s, m, h⟩ => by
    refine tE_bind (Qb := fun w => QV X.K ca w Q) e s m h (fun e q => QV.later e q) fun w2 d v s2 m2 r e1 h2 => ?_
    obtain ⟨n, xs, ys, z, vs, k1, k2, k3, k4, k5, q5⟩ := chg_of s2 r h2
    unfold kPop at k5
    cases q : xs.getLast? with
    | none => rw [q] at k5; cases k5
    | some l =>
      rw [q] at k5
      cases k5
      rw [List.getLast?_eq_getElem?] at q
      obtain ⟨y, hy, ry⟩ := k4.get q
      have rd : RepL X.K ca w2 vs.dropLast xs.dropLast := by
        rw [List.dropLast_eq_take, List.dropLast_eq_take, k4.length]
        exact k4.take _
      obtain ⟨y1, sy⟩ := chg_ext (ys := xs.dropLast) (vs := vs.dropLast) s2 k2 rd
      subst k1
      exact ⟨tyL (X := X) k3, _, vs, y, rfl, rfl, k3, by rw [k4.length]; exact hy, q5 _ rfl y1 sy y (ry.mono y1 s2)⟩
theorem e_popAt (ho : PE X eo (tE X.K ca W o)) (ha : PE X a (tE X.K ca W f))
    (hbase : attributeBase eo "pop" X.env (eval eo X.env) = eval eo X.env := by rfl)
    (hfew : ((backTo cpos (starEach [a] X.env)).all (fun x => !x.1) && (backToKw cpos (keywordEach [] X.env)).all (fun x => x.1.isSome)
      && decide ([a].length + ([] : List Keyword).length + (if ([] : List Keyword).isEmpty then 0 else 1) < 30)) = true := by rfl)
    (hline : (apos.endLine == cpos.line) = true := by rfl) (hs : starEach [a] X.env = (false, eval a X.env) :: starEach [] X.env := by rfl) (hplain : (backTo cpos (starEach [] X.env)).any (·.1) = false := by rfl) :
    PE X (.Call (.Attribute eo "pop" apos) [a] [] cpos) (tE X.K ca W (ePopAt (rcv o) f)) :=
  PE.imp (pe_bm PySem.F.plainAttrs_list PySem.F.slot_list_pop PySem.F.type_list_pop mt_popAt ho (pa_cons ha pa_nil hs) hbase hfew hline hs hplain) fun σ H Q ⟨w, env, e, s, m, h⟩ => by
    refine rcv_imp (tE_bind (Qb := fun w => QV X.K ca w Q) e s m h (fun e q => QV.later e q) fun w1 d v s1 m1 r e1 h1 => ?_)
    refine tE_bind (Qb := fun w => QV X.K ca w Q) rfl s1 m1 h1 (fun e q => QV.later e q) fun w2 d2 v2 s2 m2 r2 e2 h2 => ?_
    obtain ⟨n, xs, ys, z, vs, k1, k2, k3, k4, k5, q5⟩ := chg_of s2 (r.mono e2 s1) h2
    unfold kPopAt at k5
    cases r2 with
    | int j =>
      dsimp only at k5
      by_cases hj : inR j = true
      · rw [if_pos hj] at k5
        obtain ⟨j1, j2⟩ := inR_ok hj
        cases q : ixN xs.length j with
        | none => rw [q] at k5; cases k5
        | some t =>
          rw [q, Option.bind_some] at k5
          cases q2 : xs[t]? with
          | none => rw [q2] at k5; cases k5
          | some l =>
            rw [q2] at k5
            cases k5
            obtain ⟨y, hy, ry⟩ := k4.get q2
            have rd : RepL X.K ca w2 (vs.eraseIdx t) (xs.eraseIdx t) := by
              rw [List.eraseIdx_eq_take_drop_succ, List.eraseIdx_eq_take_drop_succ]
              exact (k4.take _).append (k4.drop _)
            obtain ⟨y1, sy⟩ := chg_ext (ys := xs.eraseIdx t) (vs := vs.eraseIdx t) s2 k2 rd
            exact ⟨_, vs, j, t, y, k1, rfl, k3, by omega, by omega, by rw [k4.length]; exact (ixN_seq q).1, hy, q5 _ rfl y1 sy y (ry.mono y1 s2)⟩
      · rw [if_neg hj] at k5
        cases k5
    | _ => cases k5
theorem e_ins (ho : PE X eo (tE X.K ca W o)) (ha : PE X a (tE X.K ca W i)) (hb : PE X b (tE X.K ca W f))
    (hbase : attributeBase eo "insert" X.env (eval eo X.env) = eval eo X.env := by rfl)
    (hfew : ((backTo cpos (starEach [a, b] X.env)).all (fun x => !x.1) && (backToKw cpos (keywordEach [] X.env)).all (fun x => x.1.isSome)
      && decide ([a, b].length + ([] : List Keyword).length + (if ([] : List Keyword).isEmpty then 0 else 1) < 30)) = true := by rfl)
    (hline : (apos.endLine == cpos.line) = true := by rfl) (hs : starEach [a, b] X.env = (false, eval a X.env) :: starEach [b] X.env := by rfl) (hs2 : starEach [b] X.env = (false, eval b X.env) :: starEach [] X.env := by rfl) (hplain : (backTo cpos (starEach [b] X.env)).any (·.1) = false := by rfl) :
    PE X (.Call (.Attribute eo "insert" apos) [a, b] [] cpos) (tE X.K ca W (eIns (rcv o) i f)) :=
  PE.imp (pe_bm PySem.F.plainAttrs_list PySem.F.slot_list_insert PySem.F.type_list_insert mt_insert ho (pa_cons ha (pa_cons hb pa_nil hs2) hs) hbase hfew hline hs hplain) fun σ H Q ⟨w, env, e, s, m, h⟩ => by
    refine rcv_imp (tE_bind (Qb := fun w => QV X.K ca w Q) e s m h (fun e q => QV.later e q) fun w1 d v s1 m1 r e1 h1 => ?_)
    refine tE_bind (Qb := fun w => QV X.K ca w Q) rfl s1 m1 h1 (fun e q => QV.later e q) fun w2 d2 v2 s2 m2 r2 e2 h2 => ?_
    refine tE_bind (f := f) (Qb := fun w => QV X.K ca w Q) rfl s2 m2 h2 (fun e q => QV.later e q) fun w3 d3 v3 s3 m3 r3 e3 h3 => ?_
    obtain ⟨n, xs, ys, z, vs, k1, k2, k3, k4, k5, q5⟩ := chg_of s3 ((r.mono e2 s1).mono e3 s2) h3
    unfold kIns at k5
    cases r2 with
    | int j =>
      dsimp only at k5
      by_cases hj : xs.length < sizeLine ∧ 0 ≤ j ∧ j < 2 ^ 62
      · rw [if_pos hj] at k5
        cases k5
        obtain ⟨y1, sy⟩ := chg_ext (ys := xs.take j.toNat ++ [d3] ++ xs.drop j.toNat) (vs := vs.take j.toNat ++ [v3] ++ vs.drop j.toNat) s3 k2 (((k4.take _).append (.cons r3 .nil)).append (k4.drop _))
        exact ⟨_, vs, j, v3, k1, rfl, k3, by rw [k4.length]; exact hj.1, hj.2.1, by omega, q5 _ rfl y1 sy .non .non⟩
      · rw [if_neg hj] at k5
        cases k5
    | _ => cases k5
theorem e_ext (ho : PE X eo (tE X.K ca W o)) (ha : PE X a (tE X.K ca W f))
    (hbase : attributeBase eo "extend" X.env (eval eo X.env) = eval eo X.env := by rfl)
    (hfew : ((backTo cpos (starEach [a] X.env)).all (fun x => !x.1) && (backToKw cpos (keywordEach [] X.env)).all (fun x => x.1.isSome)
      && decide ([a].length + ([] : List Keyword).length + (if ([] : List Keyword).isEmpty then 0 else 1) < 30)) = true := by rfl)
    (hline : (apos.endLine == cpos.line) = true := by rfl) (hs : starEach [a] X.env = (false, eval a X.env) :: starEach [] X.env := by rfl) (hplain : (backTo cpos (starEach [] X.env)).any (·.1) = false := by rfl) :
    PE X (.Call (.Attribute eo "extend" apos) [a] [] cpos) (tE X.K ca W (eExt (rcv o) f)) :=
  PE.imp (pe_bm PySem.F.plainAttrs_list PySem.F.slot_list_extend PySem.F.type_list_extend mt_extend ho (pa_cons ha pa_nil hs) hbase hfew hline hs hplain) fun σ H Q ⟨w, env, e, s, m, h⟩ => by
    refine rcv_imp (tE_bind (Qb := fun w => QV X.K ca w Q) e s m h (fun e q => QV.later e q) fun w1 d v s1 m1 r e1 h1 => ?_)
    refine tE_bind (Qb := fun w => QV X.K ca w Q) rfl s1 m1 h1 (fun e q => QV.later e q) fun w2 d2 v2 s2 m2 r2 e2 h2 => ?_
    cases q : asL d2 w2.S with
    | none => rw [q] at h2; exact h2.elim
    | some zs =>
      rw [q] at h2
      obtain ⟨b, us, f1, f2, f3⟩ := asL_rep s2 r2 q
      obtain ⟨n, xs, ys, z, vs, k1, k2, k3, k4, k5, q5⟩ := chg_of s2 (r.mono e2 s1) h2
      unfold kExt at k5
      by_cases hl : xs.length + zs.length ≤ sizeLine
      · rw [if_pos hl] at k5
        cases k5
        subst f1
        refine ⟨_, b, vs, us, k1, rfl, k3, f2, by rw [k4.length, f3.length]; exact hl, ?_⟩
        obtain ⟨y, sy⟩ := chg_ext (ys := xs ++ zs) (vs := vs ++ us) s2 k2 (k4.append f3)
        exact q5 _ rfl y sy .non .non
      · rw [if_neg hl] at k5
        cases k5
end

/-! ### x += e, xs[i] += e -/
def sAug (i : Nat) (o : Int → Int → Int) (f : Den) : DenS := fun e S => match e[i]? with
  | some (some (.int a)) => (match f e S with | .ok (.int b) S1 => .next (e.set i (some (.int (o a b)))) S1 | .err c v S1 => .err c v e S1 | _ => .bad)
  | _ => .bad
def optR {α β : Type} (x : Option α) (k : α → R β) : R β := match x with | some a => k a | none => .bad
def asI : D → Option Int | .int i => some i | _ => none
def augGet (d j : D) (S : Store) : Option Int := match d, j with
  | .ref n, .int j => if 0 ≤ j ∧ j < 2 ^ 62 then (match S[n]? with
    | some (.lst xs) => (match xs[j.toNat]? with
      | some (.int a) => some a
      | _ => none)
    | _ => none) else none
  | _, _ => none
theorem augGet_of {d j : D} {S : Store} {a : Int} (h : augGet d j S = some a) : ∃ n i xs, d = .ref n ∧ j = .int i ∧ 0 ≤ i ∧ i < 2 ^ 62 ∧ S[n]? = some (.lst xs) ∧ xs[i.toNat]? = some (.int a) := by
  unfold augGet at h
  split at h
  · rename_i n i
    split at h
    · rename_i hi
      split at h
      · rename_i xs hx
        split at h
        · rename_i c hc
          cases h
          exact ⟨n, i, xs, rfl, rfl, hi.1, hi.2, hx, hc⟩
        · cases h
      · cases h
    · cases h
  · cases h
def augF (f : Den) (k : Int → Int → Int) (d j : D) (e : Env) (a : Int) (S : Store) : R D := (f e S).bind fun b S3 => optR (asI b) fun b => chg (kSet j (.int (k a b))) d S3
def augJ (f : Den) (k : Int → Int → Int) (d j : D) (e : Env) (S : Store) : R D := optR (augGet d j S) fun a => augF f k d j e a S
def eAugI (o i : Den) (k : Int → Int → Int) (f : Den) : Den := fun e S => (o e S).bind fun d S1 => (i e S1).bind fun j S2 => augJ f k d j e S2
section
variable {X : Cx} {ca : Nat → Addr} {W : WX} {pos p pos' apos cpos : Pos} {f g h o i : Den} {gs hs : Dens} {a b e eo ei : Expr} {es : List Expr} {w : Wd}
theorem s_aug {i : Nat} {x : Str} {op : Operator} {k : Int → Int → Int} (ho : PIp X op (ipI k)) (hN : X.N.Nodup) (hi : X.N[i]? = some x) (hx : Loc X.env.scope x) (he : PE X a (tE X.K ca W f))
    (hf : X.fn x = true ∨ X.env.scope.names.lookup x = some .local := by first | exact .inl rfl | exact .inr rfl | assumption) : PS X (.AugAssign (.Name x pos') op a pos) (tS X.K ca W (sAug i k f)) :=
  PS.imp (ps_aug hN hi hx he ho hf) fun U σ H ⟨w, env, e, s, m, h⟩ => by
    unfold sAug at h
    cases q : env[i]? with
    | none => rw [q] at h; exact h.elim
    | some od =>
      cases od with
      | none => rw [q] at h; exact h.elim
      | some d =>
        rw [q] at h
        cases d with
        | int a =>
          obtain ⟨v, hv, rv⟩ := m.2 i _ q
          cases rv
          refine ⟨_, hv, ?_⟩
          dsimp only at h
          refine tE_then (k := fun d S1 => match d with | .int b => RS.next (env.set i (some (.int (k a b)))) S1 | _ => .bad) e s m (by
            cases q2 : f env w.S with
            | ok d S1 => rw [q2] at h; cases d <;> exact h
            | err c v S1 => rw [q2] at h; exact h
            | bad => rw [q2] at h; exact h) fun w1 d v s1 m1 r x1 q => ?_
          cases r with
          | int b => exact ⟨a, b, rfl, rfl, Aft.here (w' := w1) q (.refl w1) s1 _ (m1.set i (.int _))⟩
          | _ => exact q.elim
        | _ => exact h.elim
/-- the item of a list at a place from 0 on -/
theorem get_list0 : PGet X (fun x y H Q => ∃ p xs i v, x = .ref p ∧ y = .int i ∧ SqL X.K H p xs ∧ 0 ≤ i ∧ i < 2 ^ 63 ∧ xs[i.toNat]? = some v ∧ Q v H) := by
  intro pins s σ H x y v u Q I rx ry h
  obtain ⟨p, xs, i, z, rfl, rfl, hq, h0, h1, he, q⟩ := h
  cases rx
  obtain ⟨t, rfl⟩ := ry
  obtain ⟨its, r, pl, hz⟩ := I.list hq
  obtain ⟨w, ew, rw'⟩ := r.get he
  exact wpAny_getItem_list pl.isList h0 h1 (by simpa using ew) ⟨z, H, I, rw', q⟩
/-- a reading of a Den given as a statement -/
def rs (env : Env) (r : R D) : RS := match r with | .ok _ S1 => .next env S1 | .err c v S1 => .err c v env S1 | .bad => .bad
theorem rs_then {w : Wd} {env : Env} {σ : St} {H : Hp} {R : V → Hp → Prop} {U : Ends} {k : D → Store → Py.R D} (e : w.H = H) (s : SOk X.K ca w) (m : Sim X.K ca w env σ)
    (h : SatS X.K ca (rs env ((f env w.S).bind k)) w U W)
    (hr : ∀ w1 d v, SOk X.K ca w1 → Sim X.K ca w1 env σ → Rep X.K ca w1 v d → Ext w w1 → SatS X.K ca (rs env (k d w1.S)) w1 U W → R v w1.H) : tE X.K ca W f σ H R :=
  tE_then (k := fun d S => rs env (k d S)) e s m (by
    cases q : f env w.S with
    | ok d S1 => rw [q] at h; exact h
    | err c v S1 => rw [q] at h; exact h
    | bad => rw [q] at h; exact h) hr
theorem s_augI {op : Operator} {k : Int → Int → Int} (hop : PIp X op (ipI k)) (ho : PE X eo (tE X.K ca W o)) (hi : PE X ei (tE X.K ca W i)) (he : PE X a (tE X.K ca W f))
    (ha : ∀ ov iv new, augStore ei ov iv new = (do holding [new, ov, iv] (setItem ov iv new); release [new, ov, iv] []; pure .next) := by intros; rfl) : PS X (.AugAssign (.Subscript eo ei p) op a pos) (tS X.K ca W (sExpr (eAugI o i k f))) :=
  PS.imp (ps_augS ho hi get_list0 he hop set_list ha) fun U σ H ⟨w, env, e, s, m, h⟩ => by
    refine rs_then e s m h fun w1 d dv s1 m1 r1 x1 q1 => ?_
    refine rs_then rfl s1 m1 q1 fun w2 j jv s2 m2 r2 x2 q2 => ?_
    have r1' := r1.mono x2 s1
    unfold augJ at q2
    cases z : augGet d j w2.S with
    | none => rw [z] at q2; exact q2.elim
    | some c =>
      rw [z] at q2
      obtain ⟨n, i, xs, rfl, rfl, h0, h1, hS, hx⟩ := augGet_of z
      obtain ⟨vs, hv, rv⟩ := s2.live n xs hS
      obtain ⟨cv, hc, rc⟩ := rv.get hx
      cases rc
      cases r2
      cases r1' with
      | ref hn =>
        refine ⟨_, vs, i, _, rfl, rfl, .inl (.inl hv), h0, by omega, hc, ?_⟩
        refine rs_then rfl s2 m2 q2 fun w3 b bv s3 m3 r3 x3 q3 => ?_
        cases r3 with
        | int b =>
          refine ⟨c, b, rfl, rfl, ?_⟩
          have q4 : Sat (chg (kSet (.int i) (.int (k c b))) (.ref n) w3.S) (fun _ S => SatS X.K ca (.next env S) w3 U W) (fun _ _ _ => False) := by
            have q3' : SatS X.K ca (rs env (chg (kSet (.int i) (.int (k c b))) (.ref n) w3.S)) w3 U W := q3
            cases q : chg (kSet (.int i) (.int (k c b))) (.ref n) w3.S with
            | ok d S1 => rw [q] at q3'; exact q3'
            | err c v S1 => exact absurd q chg_mute
            | bad => rw [q] at q3'; exact q3'
          have rr : Rep X.K ca w3 (.ref (w2.ρ n)) (.ref n) := (Rep.ref (K := X.K) (ca := ca) hn).mono x3 s2
          obtain ⟨n', xs', ys, z', vs', e1, e2, e3, e4, e5, q5⟩ := chg_of s3 rr q4
          unfold kSet at e5
          dsimp only at e5
          cases q : ixN xs'.length i with
          | none => rw [q] at e5; cases e5
          | some t =>
            rw [q] at e5
            cases e5
            refine ⟨_, vs', i, t, e1, rfl, e3, by rw [e4.length]; exact q, ?_⟩
            obtain ⟨y, sy⟩ := chg_ext (ys := xs'.set t (.int (k c b))) (vs := vs'.set t (.int (k c b))) s3 e2 (e4.set t (.int _))
            exact q5 _ rfl y sy σ (m3.mono y s3)
        | _ => exact q3.elim
end
end Py

set_option maxHeartbeats 4000000
/-! PyI: what only the value reaches, comprehensions, enumerate, zip, calls by keyword, constants of the module, membership. -/
namespace Py
open PySem PySem.Spec PyProof.Rows L2

/-! ### tidy -/
section
variable {K : PySem.W.Frag} {ca : Nat → Addr} {w w1 w2 : Wd}
mutual
theorem mapR_rep {g : Nat → Option D} (hH : w2.H = w1.H) (hM : ∀ a, w2.M a → w1.M a) (hg : ∀ n d', n < w1.S.length → g n = some d' → Rep K ca w2 (.ref (w1.ρ n)) d') : ∀ {v : V} {d d' : D}, Rep K ca w1 v d → mapR g d = some d' → Rep K ca w2 v d'
  | _, _, d', .non, e => by unfold mapR at e; cases e; exact .non
  | _, _, d', .bl b, e => by unfold mapR at e; cases e; exact .bl b
  | _, _, d', .int i, e => by unfold mapR at e; cases e; exact .int i
  | _, _, d', .str x, e => by unfold mapR at e; cases e; exact .str x
  | _, _, d', .tup (ds := ds) h r, e => by
    unfold mapR at e
    cases q : mapRL g ds with
    | none => rw [q] at e; cases e
    | some es =>
      rw [q] at e
      cases e
      exact .tup (by rw [hH]; exact h) (mapRL_rep hH hM hg r q)
  | _, _, d', .lst (ds := ds) h n r, e => by
    unfold mapR at e
    cases q : mapRL g ds with
    | none => rw [q] at e; cases e
    | some es =>
      rw [q] at e
      cases e
      exact .lst (by rw [hH]; exact h) (fun m => n (hM _ m)) (mapRL_rep hH hM hg r q)
  | _, _, d', .ref (n := n) hn, e => by
    unfold mapR at e
    exact hg n d' hn e
  | _, _, d', .dct (ks := ks) (ds := ds) h n l r, e => by
    unfold mapR at e
    cases q : mapRL g ds with
    | none => rw [q] at e; cases e
    | some es =>
      rw [q] at e
      cases e
      exact .dct (by rw [hH]; exact h) (fun m => n (hM _ m)) l (mapRL_rep hH hM hg r q)
  | _, _, d', .fls h, e => by unfold mapR at e; cases e; exact .fls (by rw [hH]; exact h)
  | _, _, d', .exc (x := x) h1 h2 n1 n2 r, e => by
    unfold mapR at e
    cases q : mapR g x with
    | none => rw [q] at e; cases e
    | some es =>
      rw [q] at e
      cases e
      exact .exc (by rw [hH]; exact h1) (by rw [hH]; exact h2) (fun m => n1 (hM _ m)) (fun m => n2 (hM _ m)) (mapR_rep hH hM hg r q)
theorem mapRL_rep {g : Nat → Option D} (hH : w2.H = w1.H) (hM : ∀ a, w2.M a → w1.M a) (hg : ∀ n d', n < w1.S.length → g n = some d' → Rep K ca w2 (.ref (w1.ρ n)) d') : ∀ {vs : List V} {ds ds' : List D}, RepL K ca w1 vs ds → mapRL g ds = some ds' → RepL K ca w2 vs ds'
  | _, _, ds', .nil, e => by unfold mapRL at e; cases e; exact .nil
  | _, _, ds', .cons (d := d) (ds := ds) r t, e => by
    unfold mapRL at e
    cases q : mapR g d with
    | none => rw [q] at e; cases e
    | some y =>
      rw [q] at e
      cases q2 : mapRL g ds with
      | none => rw [q2] at e; cases e
      | some ys =>
        rw [q2] at e
        cases e
        exact .cons (mapR_rep hH hM hg r q) (mapRL_rep hH hM hg t q2)
end
def lowG (m : Nat) : Nat → Option D := fun k => if k < m then some (.ref k) else none
mutual
theorem rep_low : ∀ {v : V} {d : D}, Rep K ca w v d → mapR (lowG w.S.length) d = some d
  | _, _, .non => by unfold mapR; rfl
  | _, _, .bl b => by unfold mapR; rfl
  | _, _, .int i => by unfold mapR; rfl
  | _, _, .str x => by unfold mapR; rfl
  | _, _, .tup h r => by unfold mapR; rw [repL_low r]; rfl
  | _, _, .lst h n r => by unfold mapR; rw [repL_low r]; rfl
  | _, _, .ref hn => by unfold mapR; exact if_pos hn
  | _, _, .fls h => by unfold mapR; rfl
  | _, _, .dct h n l r => by unfold mapR; rw [repL_low r]; rfl
  | _, _, .exc h1 h2 n1 n2 r => by unfold mapR; rw [rep_low r]; rfl
theorem repL_low : ∀ {vs : List V} {ds : List D}, RepL K ca w vs ds → mapRL (lowG w.S.length) ds = some ds
  | _, _, .nil => by unfold mapRL; rfl
  | _, _, .cons r t => by unfold mapRL; rw [rep_low r, repL_low t]; rfl
end
theorem cut_world (x : Ext w w1) (s : SOk K ca w) (s1 : SOk K ca w1) (ho : Old w.S w1.S) :
    let w2 : Wd := ⟨w1.H, w1.ρ, w1.S.take w.S.length⟩
    Ext w w2 ∧ SOk K ca w2 ∧ (∀ a, w2.M a → w1.M a) ∧ (∀ n d', n < w1.S.length → resN w.S.length w1.S 9 n = some d' → Rep K ca w2 (.ref (w1.ρ n)) d') := by
  intro w2
  have hlen : w2.S.length = w.S.length := by
    show (w1.S.take w.S.length).length = w.S.length
    rw [List.length_take]
    exact Nat.min_eq_left x.len
  have at2 : ∀ n o, w2.S[n]? = some o → n < w.S.length ∧ w1.S[n]? = some o := fun n o q => by
    have hn : n < w2.S.length := (List.getElem?_eq_some_iff.mp q).1
    rw [hlen] at hn
    refine ⟨hn, ?_⟩
    have q' : (w1.S.take w.S.length)[n]? = some o := q
    rwa [List.getElem?_take_of_lt hn] at q'
  have hM : ∀ a, w2.M a → w1.M a := fun a ⟨n, xs, q, e⟩ => ⟨n, xs, (at2 n _ q).2, e⟩
  have low : ∀ n d', n < w1.S.length → lowG w.S.length n = some d' → Rep K ca w2 (.ref (w1.ρ n)) d' := fun n d' _ e => by
    unfold lowG at e
    by_cases hn : n < w.S.length
    · rw [if_pos hn] at e
      cases e
      exact Rep.ref (w := w2) (by rw [hlen]; exact hn)
    · rw [if_neg hn] at e; cases e
  have e2 : Ext w w2 := {
    keep := fun a o q nM => x.keep a o q nM
    fresh := fun a m => x.fresh a (hM a m)
    rho := fun n hn => x.rho n hn
    len := Nat.le_of_eq hlen.symm }
  have s2 : SOk K ca w2 := {
    live := fun n xs q => by
      obtain ⟨hn, q1⟩ := at2 n _ q
      obtain ⟨vs, hv, rv⟩ := s1.live n xs q1
      refine ⟨vs, hv, ?_⟩
      have hl : mapRL (lowG w.S.length) xs = some xs := by
        rcases ho n hn with z | ⟨ys, z, zl⟩
        · rw [q1] at z
          obtain ⟨us, _, ru⟩ := s.live n xs z.symm
          exact repL_low ru
        · rw [q1] at z
          cases z
          exact zl
      exact mapRL_rep (w1 := w1) (w2 := w2) rfl hM low rv hl
    inj := fun n m xs ys q1 q2 e => s1.inj n m xs ys (at2 n _ q1).2 (at2 m _ q2).2 e }
  refine ⟨e2, s2, hM, ?_⟩
  have all : ∀ f n d', n < w1.S.length → resN w.S.length w1.S f n = some d' → Rep K ca w2 (.ref (w1.ρ n)) d' := by
    intro f
    induction f with
    | zero =>
      intro n d' hn e
      exact low n d' hn e
    | succ f ih =>
      intro n d' hn e
      unfold resN at e
      by_cases hl : n < w.S.length
      · rw [if_pos hl] at e
        exact low n d' hn (by unfold lowG; rw [if_pos hl]; exact e)
      · rw [if_neg hl] at e
        cases q : w1.S[n]? with
        | none => rw [q] at e; cases e
        | some o =>
          cases o with
          | dead => rw [q] at e; cases e
          | lst xs =>
            rw [q] at e
            dsimp only at e
            cases q2 : mapRL (resN w.S.length w1.S f) xs with
            | none => rw [q2] at e; cases e
            | some ys =>
              rw [q2] at e
              cases e
              obtain ⟨vs, hv, rv⟩ := s1.live n xs q
              refine .lst hv (fun ⟨k, zs, qk, ek⟩ => ?_) (mapRL_rep (w1 := w1) (w2 := w2) rfl hM ih rv q2)
              obtain ⟨hk, qk1⟩ := at2 k _ qk
              have := s1.inj k n zs xs qk1 q ek
              omega
  exact all 9
theorem tidy_imp {r : R D} {Q : VK} {RR : Value → Option Addr → Hp → Prop} (s : SOk K ca w) (h : Sat (tidy w.S r) (QV K ca w Q) (fun c x S => Aft K ca w S fun w' => ∀ cls dd, ExIn K ca w' cls dd c x → RR cls dd w'.H)) :
    Sat r (QV K ca w Q) (fun c x S => Aft K ca w S fun w' => ∀ cls dd, ExIn K ca w' cls dd c x → RR cls dd w'.H) := by
  cases r with
  | bad => exact h
  | ok d S' =>
    unfold tidy at h
    dsimp only at h
    by_cases hl : S'.length ≤ w.S.length
    · rw [if_pos hl] at h; exact h
    · rw [if_neg hl] at h
      cases q : res w.S.length S' d with
      | none => rw [q] at h; exact h
      | some d' =>
        rw [q] at h
        dsimp only at h
        by_cases ho : Old w.S S'
        · rw [if_pos ho] at h
          intro w1 hS x s1 v rv
          subst hS
          obtain ⟨x2, s2, hM, hg⟩ := cut_world x s s1 ho
          exact h ⟨w1.H, w1.ρ, w1.S.take w.S.length⟩ rfl x2 s2 v (mapR_rep (w1 := w1) (w2 := ⟨w1.H, w1.ρ, w1.S.take w.S.length⟩) rfl hM hg rv q)
        · rw [if_neg ho] at h; exact h
  | err c d S' =>
    unfold tidy at h
    dsimp only at h
    by_cases hl : S'.length ≤ w.S.length
    · rw [if_pos hl] at h; exact h
    · rw [if_neg hl] at h
      cases q : res w.S.length S' d with
      | none => rw [q] at h; exact h
      | some d' =>
        rw [q] at h
        dsimp only at h
        by_cases ho : Old w.S S'
        · rw [if_pos ho] at h
          intro w1 hS x s1 cls dd ex
          subst hS
          obtain ⟨x2, s2, hM, hg⟩ := cut_world x s s1 ho
          obtain ⟨e1, a, v, e2, e3, e4, rv⟩ := ex
          exact h ⟨w1.H, w1.ρ, w1.S.take w.S.length⟩ rfl x2 s2 cls dd ⟨e1, a, v, e2, e3, fun m => e4 (hM _ m), mapR_rep (w1 := w1) (w2 := ⟨w1.H, w1.ρ, w1.S.take w.S.length⟩) rfl hM hg rv q⟩
        · rw [if_neg ho] at h; exact h
end
/-- a def whose own lists do not go out -/
theorem fn_tidy {P : Program} {w : World} {K : PySem.W.Frag} {ca : Nat → Addr} {mg : Str → Option Value} {base : Heap} {x qual : Str} {params : Arguments} {body : List Stmt} {scope : Scope} {dvs : List V} {kws : List (Str × V)} {f : Addr} {fd : FuncData} {N ps : List Str} {k i : Nat} {Γ' : Calls} {F : DenS}
    (Fd : FunD K x qual params body scope dvs kws f fd) (S : FnScope N ps scope) (hΓ : ∀ args St, args.length = ps.length → Γ' i args St = runTidy F N.length args St)
    (hb : ∀ (cdv : Value) (A : Around) (outer : List PySem.Env) (s : Shared) (H : Hp) (E : XK), Room k (A.deeper (envOfC qual scope s.heap.objs.size f cdv)) →
      PSs (cxOf (L2.CX P w) P w K mg base N qual scope f cdv A outer s H E) body (tS K ca (fun cls d _ H => E cls d H) F)) :
    FnOk P w K mg base (L2.CX P w) (k + 1) f fd ps (spF K ca Γ' i ps.length) := by
  have base0 := fn_body (Γ' := fun _ args St => runBody F N.length args St) (i := i) Fd S (fun _ _ _ => rfl) hb
  refine ⟨fun vs H Q E h => by obtain ⟨_, _, _, hl, _⟩ := h; exact hl, fun A outer s H args us vs Q E hr he hb r h => base0.run A outer s H args us vs Q E hr he hb r ?_⟩
  obtain ⟨w0, ds, e, hl, sk, r, h⟩ := h
  refine ⟨w0, ds, e, hl, sk, r, ?_⟩
  rw [hΓ ds w0.S (by rw [← r.length]; exact hl)] at h
  exact tidy_imp sk h

/-! ### targets of a comprehension -/
section
variable {X : Cx} {ca : Nat → Addr} {W : WX} {pos pos' p apos cpos : Pos} {f g h o i : Den} {gs hs : Dens} {a b e elt eo ei : Expr} {es ifs : List Expr} {w : Wd}
theorem wipe_get : ∀ (σ : St) (vs : List Nat) (i : Nat), (wipe σ vs)[i]? = if i ∈ vs then σ[i]?.map (fun _ => none) else σ[i]?
  | σ, [], i => by simp [wipe]
  | σ, v :: vs, i => by
    unfold wipe
    rw [List.getElem?_set]
    by_cases hv : v = i
    · subst hv
      rw [if_pos rfl, wipe_length]
      by_cases hl : v < σ.length
      · rw [if_pos hl, if_pos List.mem_cons_self, List.getElem?_eq_getElem hl]
        rfl
      · rw [if_neg hl, if_pos List.mem_cons_self, List.getElem?_eq_none (Nat.le_of_not_lt hl)]
        rfl
    · rw [if_neg hv, wipe_get σ vs i]
      have : (i ∈ v :: vs) ↔ i ∈ vs := by simp [Ne.symm hv]
      simp only [this]
theorem wipe_set {σ : St} {vs : List Nat} {i : Nat} {x : Option V} (h : i ∈ vs) : wipe (σ.set i x) vs = wipe σ vs := by
  apply List.ext_getElem?
  intro j
  rw [wipe_get, wipe_get]
  by_cases hj : j ∈ vs
  · rw [if_pos hj, if_pos hj, List.getElem?_set]
    by_cases e : i = j
    · subst e
      rw [if_pos rfl]
      by_cases hl : i < σ.length
      · rw [if_pos hl, List.getElem?_eq_getElem hl]; rfl
      · rw [if_neg hl, List.getElem?_eq_none (Nat.le_of_not_lt hl)]
    · rw [if_neg e]
  · rw [if_neg hj, if_neg hj, List.getElem?_set_ne (fun e => hj (by rw [← e]; exact h))]
theorem wipe_wipe {σ : St} {vs : List Nat} : wipe (wipe σ vs) vs = wipe σ vs := by
  apply List.ext_getElem?
  intro j
  rw [wipe_get, wipe_get]
  by_cases hj : j ∈ vs
  · rw [if_pos hj, if_pos hj, Option.map_map]; rfl
  · rw [if_neg hj, if_neg hj]
theorem Sim.wipe {env : Env} {σ : St} (h : Sim X.K ca w env σ) : ∀ vs : List Nat, Sim X.K ca w (wipeE env vs) (L2.wipe σ vs)
  | [] => h
  | v :: vs => (Sim.wipe h vs).unset v
def tGv (K : PySem.W.Frag) (ca : Nat → Addr) (vs : List Nat) (g : Tgt) : TG := fun v σ H Q => ∃ w env d e', w.H = H ∧ SOk K ca w ∧ Sim K ca w env σ ∧ Rep K ca w v d ∧ g d env w.S = some e' ∧ ∀ σ', Sim K ca w e' σ' → L2.wipe σ' vs = L2.wipe σ vs → Q σ' H
def tGvs (K : PySem.W.Frag) (ca : Nat → Addr) (vs : List Nat) (gs : List Tgt) : TGs := fun us σ H Q => ∃ w env ds e', w.H = H ∧ SOk K ca w ∧ Sim K ca w env σ ∧ RepL K ca w us ds ∧ gAll gs ds env w.S = some e' ∧ ∀ σ', Sim K ca w e' σ' → L2.wipe σ' vs = L2.wipe σ vs → Q σ' H
theorem gv_name {i : Nat} {vs : List Nat} {x : Str} (hv : i ∈ vs) (hN : X.N.Nodup) (hi : X.N[i]? = some x) (hx : Loc X.env.scope x) (hf : X.fn x = true ∨ X.env.scope.names.lookup x = some .local := by first | exact .inl rfl | exact .inr rfl | assumption) : PG X (.Name x pos) (tGv X.K ca vs (gNm i)) :=
  ⟨fun pins s σ H v u Q I r h => (pg_name hN hi hx hf).run pins s σ H v u Q I r (by
    obtain ⟨w, env, d, e', e, sk, m, rp, hg, q⟩ := h
    have he : e' = env.set i (some d) := (Option.some.inj hg).symm
    subst he
    exact q _ (m.set i rp) (wipe_set hv))⟩
theorem gvs_nil {vs : List Nat} : PGs X [] (tGvs X.K ca vs []) := ⟨fun pins s σ H us zs Q I r h => pgs_nil.run pins s σ H us zs Q I r (by
  obtain ⟨w, env, ds, e', e, sk, m, rp, hg, q⟩ := h
  cases rp with
  | nil =>
    have he : e' = env := (Option.some.inj hg).symm
    subst he
    exact ⟨rfl, q _ m rfl⟩
  | cons _ _ => cases hg)⟩
theorem gvs_cons {vs : List Nat} {t : Tgt} {ts : List Tgt} {es : List Expr} (h1 : PG X a (tGv X.K ca vs t)) (h2 : PGs X es (tGvs X.K ca vs ts))
    (hs : (assignEach (a :: es) X.env).map (·.2) = assign a X.env :: (assignEach es X.env).map (·.2) := by rfl) : PGs X (a :: es) (tGvs X.K ca vs (t :: ts)) :=
  ⟨fun pins s σ H us zs Q I r h => (pgs_cons h1 h2 hs).run pins s σ H us zs Q I r (by
    obtain ⟨w, env, ds, e', e, sk, m, rp, hg, q⟩ := h
    cases rp with
    | nil => cases hg
    | @cons v d us ds rv rt =>
      refine ⟨v, us, rfl, ?_⟩
      unfold gAll at hg
      cases z : t d env w.S with
      | none => rw [z] at hg; cases hg
      | some e1 =>
        rw [z] at hg
        exact ⟨w, env, d, e1, e, sk, m, rv, z, fun σ1 m1 k1 => ⟨w, e1, ds, e', e, sk, m1, rt, hg, fun σ2 m2 k2 => q σ2 m2 (k2.trans k1)⟩⟩)⟩
theorem gv_tup {vs : List Nat} {ts : List Tgt} {es : List Expr} {k : Nat} (hc : X.calm = true) (h : PGs X es (tGvs X.K ca vs ts)) (hl : ts.length = es.length := by rfl)
    (hn : (assignEach es X.env).length = es.length := by rfl) (hst : (assignEach es X.env).findIdx? (·.1) = none := by rfl) : PG X (.Tuple es k pos) (tGv X.K ca vs (gTup ts)) :=
  ⟨fun pins s σ H v u Q I r h0 => by
    obtain ⟨w, env, d, e', e, sk, m, rp, hg, q⟩ := h0
    subst e
    cases rp with
    | @tup a us ds hq ra =>
      have hlen := gAll_length hg
      exact (pg_tup hc h (n := es.length) hn hst).run pins s σ w.H _ u Q I r ⟨a, us, rfl, hq, by rw [ra.length, hlen, hl], ⟨w, env, ds, e', rfl, sk, m, ra, hg, q⟩⟩
    | @lst a us ds hq hM ra =>
      have hlen := gAll_length hg
      exact (pg_lst hc h (n := es.length) hn hst).run pins s σ w.H _ u Q I r ⟨a, us, rfl, .inl (.inl hq), by rw [ra.length, hlen, hl], ⟨w, env, ds, e', rfl, sk, m, ra, hg, q⟩⟩
    | _ => cases hg⟩

/-! ### the comprehension -/
abbrev W0 : WX := fun _ _ _ _ => False
theorem lc_core2 {vs : List Nat} {t : DenT} {g : Tgt} {wk : Walk} {J : It} {env : Env} {σ : St} {n : Nat} {Q : VK} (s : SOk X.K ca w) (m : Sim X.K ca w env σ) (hJ : ItOk X.K ca w J wk)
    (h : Sat ((lcW g t f wk (wipeE env vs) w.S.length n 0 (w.S ++ [.lst []])).bind fun _ S2 => .ok (.ref w.S.length) S2) (QV X.K ca w Q) (fun _ _ _ => False)) :
    ∀ D, w.H D = none → ∃ Wi : Nat → Nat → Hp → Prop, (∃ m, Wi 0 m (upd w.H D (.lst []))) ∧ ∀ i m H, Wi i m H →
      (J.stop i H ∧ Q (.ref D) H) ∨ (J.go i H ∧ ∃ Nx : Hp → Prop, (∀ H', Nx H' → ∃ m', m' < m ∧ Wi (i + 1) m' H') ∧ ∀ x H', J.yld i H x H' → tGv X.K ca vs g x (wipe σ vs) H' fun σ2 H2 => wipe σ2 vs = wipe σ vs ∧ tT X.K ca W0 t σ2 H2 fun b H3 =>
        if b = true then tE X.K ca W0 f σ2 H3 fun y H4 => ∃ acc, H4 D = some (.lst acc) ∧ acc.length < sizeLine ∧ Nx (upd H4 D (.lst (acc ++ [y]))) else Nx H3) := by
  intro A hA
  obtain ⟨x1, s1⟩ := new_ext (X := X) (ca := ca) (p := A) (vs := []) (ds := []) s hA .nil
  generalize hw1 : (⟨upd w.H A (.lst []), fun n => if n = w.S.length then A else w.ρ n, w.S ++ [.lst []]⟩ : Wd) = w1 at x1 s1
  have hn1 : w.S.length < w1.S.length := by rw [← hw1]; show _ < (w.S ++ [O.lst []]).length; rw [List.length_append]; exact Nat.lt_succ_self _
  have hρ : w1.ρ w.S.length = A := by rw [← hw1]; exact if_pos rfl
  have hS1 : w1.S = w.S ++ [.lst []] := by rw [← hw1]
  have hH1 : w1.H = upd w.H A (.lst []) := by rw [← hw1]
  refine ⟨fun i k H => ∃ w2, w2.H = H ∧ Ext w1 w2 ∧ SOk X.K ca w2 ∧ Sat (lcW g t f wk (wipeE env vs) w.S.length k i w2.S) (fun _ S2 => QV X.K ca w2 Q (.ref w.S.length) S2) (fun _ _ _ => False), ⟨n, w1, hH1, .refl w1, s1, ?_⟩, ?_⟩
  · rw [hS1]
    exact (Sat.bind h).mono (fun _ S2 q => QV.later x1 q) fun _ _ _ q => q
  rintro i k H ⟨w2, rfl, x2, s2, h2⟩
  have hA2 : w2.ρ w.S.length = A := (x2.rho _ hn1).trans hρ
  have stop : wk i w2.S = some none → QV X.K ca w2 Q (.ref w.S.length) w2.S → J.stop i w2.H ∧ Q (.ref A) w2.H := fun z q => by
    refine ⟨hJ.stops i w2 (x1.trans x2) s2 z, ?_⟩
    have rr : Rep X.K ca w2 (.ref (w2.ρ w.S.length)) (.ref w.S.length) := .ref (Nat.lt_of_lt_of_le hn1 x2.len)
    rw [hA2] at rr
    exact sat_here s2 q rr
  cases k with
  | zero =>
    unfold lcW at h2
    cases z : wk i w2.S with
    | none => rw [z] at h2; exact h2.elim
    | some o =>
      cases o with
      | some d => rw [z] at h2; exact h2.elim
      | none => rw [z] at h2; exact .inl (stop z h2)
  | succ k =>
    unfold lcW at h2
    cases z : wk i w2.S with
    | none => rw [z] at h2; exact h2.elim
    | some o =>
      cases o with
      | none => rw [z] at h2; exact .inl (stop z h2)
      | some d =>
        rw [z] at h2
        dsimp only at h2
        refine .inr ⟨hJ.goes i w2 d (x1.trans x2) s2 z, fun H' => ∃ w3, w3.H = H' ∧ Ext w1 w3 ∧ SOk X.K ca w3 ∧ Sat (lcW g t f wk (wipeE env vs) w.S.length k (i + 1) w3.S) (fun _ S2 => QV X.K ca w3 Q (.ref w.S.length) S2) (fun _ _ _ => False),
          fun H' q => ⟨k, Nat.lt_succ_self k, q⟩, fun x H' y => ?_⟩
        obtain ⟨w3, eH, eS, x3, s3, rd⟩ := hJ.yields i w2 d x H' (x1.trans x2) s2 z y
        rw [← eS] at h2
        cases zt : g d (wipeE env vs) w3.S with
        | none => rw [zt] at h2; exact h2.elim
        | some e1 =>
          rw [zt] at h2
          dsimp only at h2
          have mw := (m.mono (x1.trans (x2.trans x3)) s).wipe vs
          refine ⟨w3, _, d, e1, eH, s3, mw, rd, zt, fun σ2 m2 k2 => ⟨k2.trans wipe_wipe, w3, e1, eH, s3, m2, ?_⟩⟩
          cases zb : t e1 w3.S with
          | bad => rw [zb] at h2; exact h2.elim
          | err c v S1 => rw [zb] at h2; exact h2.elim
          | ok b S1 =>
            rw [zb] at h2
            intro w4 hS x4 s4
            subst hS
            cases b with
            | false =>
              exact iteF ⟨w4, rfl, x2.trans (x3.trans x4), s4, h2.mono (fun _ S2 q => QV.later (x3.trans x4) q) fun _ _ _ q => q⟩
            | true =>
              refine iteT ⟨w4, e1, rfl, s4, m2.mono x4 s3, ?_⟩
              dsimp only at h2
              cases zf : f e1 w4.S with
              | bad => rw [zf] at h2; exact h2.elim
              | err c v S1 => rw [zf] at h2; exact h2.elim
              | ok dy S2 =>
                rw [zf] at h2
                intro w5 hS x5 s5 yv ry
                subst hS
                dsimp only at h2
                cases zs : w5.S[w.S.length]? with
                | none => rw [zs] at h2; exact h2.elim
                | some u =>
                  cases u with
                  | dead => rw [zs] at h2; exact h2.elim
                  | lst acc =>
                    rw [zs] at h2
                    dsimp only at h2
                    by_cases hl : acc.length < sizeLine
                    · rw [if_pos hl] at h2
                      obtain ⟨us, hu, ru⟩ := s5.live _ acc zs
                      have e5 : w5.ρ w.S.length = A := (((x2.trans (x3.trans (x4.trans x5)))).rho _ hn1).trans hρ
                      obtain ⟨y6, s6⟩ := chg_ext (ys := acc ++ [dy]) (vs := us ++ [yv]) s5 zs (ru.append (.cons ry .nil))
                      rw [e5] at hu y6 s6
                      refine ⟨us, hu, by rw [ru.length]; exact hl, _, rfl, (x2.trans (x3.trans (x4.trans x5))).trans y6, s6, ?_⟩
                      exact h2.mono (fun _ S2 q => QV.later (x3.trans (x4.trans (x5.trans y6))) q) fun _ _ _ q => q
                    · rw [if_neg hl] at h2; exact h2.elim
theorem lcW_mute {g : Tgt} {t : DenT} {wk : Walk} {e0 : Env} {n : Nat} {c : Nat} {v : D} {S2 : Store} : ∀ (k i : Nat) (S : Store), lcW g t f wk e0 n k i S ≠ .err c v S2
  | 0, i, S => by unfold lcW; split <;> simp
  | k + 1, i, S => by
    unfold lcW
    split
    · simp
    · simp
    · split
      · simp
      · split
        · split
          · split
            · split
              · exact lcW_mute k _ _
              · simp
            · simp
          · simp
        · exact lcW_mute k _ _
        · simp
theorem lc_fin {g : Tgt} {t : DenT} {wk : Walk} {e0 : Env} {n k : Nat} {S : Store} {Q : D → Store → Prop} {E : Nat → D → Store → Prop} (h : Sat ((lcW g t f wk e0 n k 0 S).bind fun _ S2 => .ok (.ref n) S2) Q E) : Sat ((lcW g t f wk e0 n k 0 S).bind fun _ S2 => .ok (D.ref n) S2) Q (fun _ _ _ => False) := by
  cases z : lcW g t f wk e0 n k 0 S with
  | ok u S2 => rw [z] at h; exact h
  | err c v S2 => exact absurd z (lcW_mute k 0 S)
  | bad => rw [z] at h; exact h
theorem lc_impN {vs : List Nat} {gi : DenI} {t : DenT} {g : Tgt} {σ : St} {H : Hp} {Q : VK} (h : tE X.K ca W (eLcN vs gi g t f) σ H Q) : tLc (tIt X.K ca W gi) (tGv X.K ca vs g) (tT X.K ca W0 t) (tE X.K ca W0 f) vs σ H Q := by
  obtain ⟨w, env, e, s, m, h⟩ := h
  refine ⟨w, env, e, s, m, (Sat.bind h).mono (fun wn S1 q => ?_) fun _ _ _ q => q⟩
  intro w1 hS x1 s1 J hJ
  subst hS
  exact lc_core2 (n := wn.2) s1 (m.mono x1 s) hJ (lc_fin (q.mono (fun d S z => QV.later x1 z) fun c v S z => QE.later x1 z))
theorem lc_imp {vs : List Nat} {gi : DenI} {t : DenT} {g : Tgt} {σ : St} {H : Hp} {Q : VK} (h : tE X.K ca W (eLc vs gi g t f) σ H Q) : tLc (tIt X.K ca W gi) (tGv X.K ca vs g) (tT X.K ca W0 t) (tE X.K ca W0 f) vs σ H Q := by
  obtain ⟨w, env, e, s, m, h⟩ := h
  refine ⟨w, env, e, s, m, (Sat.bind h).mono (fun wn S1 q => ?_) fun _ _ _ q => q⟩
  intro w1 hS x1 s1 J hJ
  subst hS
  exact lc_core2 (n := wn.2) s1 (m.mono x1 s) hJ (lc_fin (tidy_imp (RR := fun cls dd H => W cls dd σ H) s1 (q.mono (fun d S z => QV.later x1 z) fun c v S z => QE.later x1 z)))
theorem pts0 : PTs X [] (tT X.K ca W0 tYesD) := ⟨fun pins s σ H Q I h => pts_nil.run pins s σ H Q I (by
  obtain ⟨w, env, e, s, m, h⟩ := h
  subst e
  exact Aft.here (w' := w) h (.refl w) s)⟩
theorem pts1 {t : DenT} (h : PT X a (tT X.K ca W0 t)) : PTs X [a] (tT X.K ca W0 t) := pts_one h
end
end Py

set_option maxHeartbeats 4000000
/-! PyJ: comprehensions as expressions, enumerate, zip, calls by keyword, constants of the module, membership, isinstance, an exception's value. -/
namespace Py
open PySem PySem.Spec PyProof.Rows L2

section
variable {X : Cx} {ca : Nat → Addr} {W : WX} {pos pos' p apos cpos spos py : Pos} {f g h o i : Den} {gs hs : Dens} {a b e elt eo ei tg iter : Expr} {es ifs : List Expr} {w : Wd}
theorem e_lc {scope : Scope} {own : List (Str × Nat)} {vs : List Nat} {gi : DenI} {t : DenT} {g : Tgt} (hc : X.calm = true) (hN : X.N.Nodup) (hv : own.map (·.2) = vs) (hi : PI X tg iter (tIt X.K ca W gi)) (ok : BlkOk X.N X.env.scope scope own)
    (hg : ∀ (s : Shared) (H : Hp) (C : Addr) (cl : List (Str × Addr)) (fp : List Addr), PG (X.blk s H scope (compEnvC scope cl C X.env) fp) tg (tGv X.K ca vs g))
    (ht : ∀ (s : Shared) (H : Hp) (C : Addr) (cl : List (Str × Addr)) (fp : List Addr), PTs (X.blk s H scope (compEnvC scope cl C X.env) fp) ifs (tT X.K ca W0 t))
    (he : ∀ (s : Shared) (H : Hp) (C : Addr) (cl : List (Str × Addr)) (fp : List Addr), PE (X.blk s H scope (compEnvC scope cl C X.env) fp) elt (tE X.K ca W0 f)) (hs : ∀ x, foldedSetIterable iter X.env x = pure x := by intro _; rfl) :
    PE X (.ListComp elt [⟨tg, iter, ifs, 0⟩] scope pos) (tE X.K ca W (eLc vs gi g t f)) := by
  subst hv
  exact PE.imp (pe_lc hc hN hi ok hg ht he hs) fun _ _ _ h => lc_imp h
theorem e_lcN {scope : Scope} {own : List (Str × Nat)} {vs : List Nat} {gi : DenI} {t : DenT} {g : Tgt} (hc : X.calm = true) (hN : X.N.Nodup) (hv : own.map (·.2) = vs) (hi : PI X tg iter (tIt X.K ca W gi)) (ok : BlkOk X.N X.env.scope scope own)
    (hg : ∀ (s : Shared) (H : Hp) (C : Addr) (cl : List (Str × Addr)) (fp : List Addr), PG (X.blk s H scope (compEnvC scope cl C X.env) fp) tg (tGv X.K ca vs g))
    (ht : ∀ (s : Shared) (H : Hp) (C : Addr) (cl : List (Str × Addr)) (fp : List Addr), PTs (X.blk s H scope (compEnvC scope cl C X.env) fp) ifs (tT X.K ca W0 t))
    (he : ∀ (s : Shared) (H : Hp) (C : Addr) (cl : List (Str × Addr)) (fp : List Addr), PE (X.blk s H scope (compEnvC scope cl C X.env) fp) elt (tE X.K ca W0 f)) (hs : ∀ x, foldedSetIterable iter X.env x = pure x := by intro _; rfl) :
    PE X (.ListComp elt [⟨tg, iter, ifs, 0⟩] scope pos) (tE X.K ca W (eLcN vs gi g t f)) := by
  subst hv
  exact PE.imp (pe_lc hc hN hi ok hg ht he hs) fun _ _ _ h => lc_impN h
theorem s_lc {scope : Scope} {own : List (Str × Nat)} {vs : List Nat} {gi : DenI} {t : DenT} {g : Tgt} {k : Nat} {y : Str} (hc : X.calm = true) (hN : X.N.Nodup) (hy : X.N[k]? = some y) (hyl : X.env.scope.names.lookup y = some .local)
    (hsw : swapsWith (.ListComp elt [⟨tg, iter, ifs, 0⟩] scope pos) (some (.Name y py)) spos.line X.env = pure true) (hv : own.map (·.2) = vs) (hi : PI X tg iter (tIt X.K ca W gi)) (ok : BlkOk X.N X.env.scope scope own)
    (hg : ∀ (s : Shared) (H : Hp) (C : Addr) (cl : List (Str × Addr)) (fp : List Addr), PG (X.blk s H scope (compEnvC scope cl C X.env) fp) tg (tGv X.K ca vs g))
    (ht : ∀ (s : Shared) (H : Hp) (C : Addr) (cl : List (Str × Addr)) (fp : List Addr), PTs (X.blk s H scope (compEnvC scope cl C X.env) fp) ifs (tT X.K ca W0 t))
    (he : ∀ (s : Shared) (H : Hp) (C : Addr) (cl : List (Str × Addr)) (fp : List Addr), PE (X.blk s H scope (compEnvC scope cl C X.env) fp) elt (tE X.K ca W0 f)) (hs : ∀ x, foldedSetIterable iter X.env x = pure x := by intro _; rfl) :
    PS X (.Assign [.Name y py] (.ListComp elt [⟨tg, iter, ifs, 0⟩] scope pos) spos) (tS X.K ca W (sSet k (eLc vs gi g t f))) := by
  subst hv
  exact s_setOf (ps_setLc hc hN hy hyl hsw hi ok hg ht he hs) fun _ _ _ h => lc_imp h
theorem s_lcN {scope : Scope} {own : List (Str × Nat)} {vs : List Nat} {gi : DenI} {t : DenT} {g : Tgt} {k : Nat} {y : Str} (hc : X.calm = true) (hN : X.N.Nodup) (hy : X.N[k]? = some y) (hyl : X.env.scope.names.lookup y = some .local)
    (hsw : swapsWith (.ListComp elt [⟨tg, iter, ifs, 0⟩] scope pos) (some (.Name y py)) spos.line X.env = pure true) (hv : own.map (·.2) = vs) (hi : PI X tg iter (tIt X.K ca W gi)) (ok : BlkOk X.N X.env.scope scope own)
    (hg : ∀ (s : Shared) (H : Hp) (C : Addr) (cl : List (Str × Addr)) (fp : List Addr), PG (X.blk s H scope (compEnvC scope cl C X.env) fp) tg (tGv X.K ca vs g))
    (ht : ∀ (s : Shared) (H : Hp) (C : Addr) (cl : List (Str × Addr)) (fp : List Addr), PTs (X.blk s H scope (compEnvC scope cl C X.env) fp) ifs (tT X.K ca W0 t))
    (he : ∀ (s : Shared) (H : Hp) (C : Addr) (cl : List (Str × Addr)) (fp : List Addr), PE (X.blk s H scope (compEnvC scope cl C X.env) fp) elt (tE X.K ca W0 f)) (hs : ∀ x, foldedSetIterable iter X.env x = pure x := by intro _; rfl) :
    PS X (.Assign [.Name y py] (.ListComp elt [⟨tg, iter, ifs, 0⟩] scope pos) spos) (tS X.K ca W (sSet k (eLcN vs gi g t f))) := by
  subst hv
  exact s_setOf (ps_setLc hc hN hy hyl hsw hi ok hg ht he hs) fun _ _ _ h => lc_impN h
end

/-! ### enumerate, zip -/
def lsW (d : D) (S : Store) : Option (Walk × Nat) := match d with
  | .lst xs => some (wkL xs, xs.length)
  | .ref n => (match S[n]? with | some (.lst xs) => some (wkR n, xs.length) | _ => none)
  | _ => none
def dEnumL (f : Den) : DenI := fun e S => (f e S).bind fun d S1 => optR (lsW d S1) fun w => .ok (wkE w.1, w.2) S1
def zipW (a b : D) (S : Store) : Option (Walk × Nat) := match a, b with
  | .tup xs, .tup ys => some (wkZ (wkL xs) (wkL ys), min xs.length ys.length)
  | a, b => (lsW a S).bind fun w => (lsW b S).map fun v => (wkZ w.1 v.1, min w.2 v.2)
def dZip2 (f g : Den) : DenI := fun e S => (f e S).bind fun a S1 => (g e S1).bind fun b S2 => optR (zipW a b S2) fun w => .ok w S2
section
variable {X : Cx} {ca : Nat → Addr} {W : WX} {pos pos' p apos cpos tpos : Pos} {f g h o i : Den} {gs hs : Dens} {a b e elt eo ei : Expr} {es elts : List Expr} {w : Wd}
theorem lsW_ok {d : D} {v : V} {wn : Walk × Nat} (s : SOk X.K ca w) (r : Rep X.K ca w v d) (h : lsW d w.S = some wn) : ∃ a vs, v = .ref a ∧ w.H a = some (.lst vs) ∧ ItOk X.K ca w (Itl X.K a) wn.1 := by
  cases r with
  | @lst a vs ds h1 n r =>
    cases h
    exact ⟨a, vs, rfl, h1, itl_ok s h1 n r⟩
  | @ref n hn =>
    unfold lsW at h
    dsimp only at h
    cases q : w.S[n]? with
    | none => rw [q] at h; cases h
    | some u =>
      cases u with
      | dead => rw [q] at h; cases h
      | lst xs =>
        rw [q] at h
        cases h
        obtain ⟨vs, hv, _⟩ := s.live n xs q
        exact ⟨_, vs, rfl, hv, itref_ok hn⟩
  | _ => cases h
theorem wkE_of {wk : Walk} {i : Nat} {S : Store} {d : D} (h : wkE wk i S = some (some d)) : ∃ x, wk i S = some (some x) ∧ d = .tup [.int i, x] := by
  unfold wkE at h
  cases q : wk i S with
  | none => rw [q] at h; cases h
  | some o =>
    cases o with
    | none => rw [q] at h; cases h
    | some x => rw [q] at h; cases h; exact ⟨x, rfl, rfl⟩
theorem wkE_end {wk : Walk} {i : Nat} {S : Store} (h : wkE wk i S = some none) : wk i S = some none := by
  unfold wkE at h
  cases q : wk i S with
  | none => rw [q] at h; cases h
  | some o =>
    cases o with
    | none => rfl
    | some x => rw [q] at h; cases h
theorem ite_ok {A : Addr} {wk : Walk} (h : ItOk X.K ca w (Itl X.K A) wk) : ItOk X.K ca w (Ite X.K A) (wkE wk) where
  goes := fun i w2 d e s2 hi => by
    obtain ⟨x, hx, _⟩ := wkE_of hi
    exact h.goes i w2 x e s2 hx
  stops := fun i w2 e s2 hi => h.stops i w2 e s2 (wkE_end hi)
  yields := fun i w2 d x H' e s2 hi y => by
    obtain ⟨z, hz, rfl⟩ := wkE_of hi
    obtain ⟨T, v, rfl, hT, rfl, hv⟩ := y
    obtain ⟨w3, e1, e2, x3, s3, r3⟩ := h.yields i w2 z v w2.H e s2 hz ⟨rfl, hv⟩
    have hT3 : w3.H T = none := by rw [e1]; exact hT
    have y3 := Ext.alloc (w := w3) (o := .tup [.int (i : Nat), v]) hT3
    refine ⟨⟨upd w3.H T (.tup [.int (i : Nat), v]), w3.ρ, w3.S⟩, by rw [← e1], e2, x3.trans y3, s3.alloc hT3, .tup (.inl (.inl upd_same)) (.cons (.int _) (.cons (r3.mono y3 s3) .nil))⟩
theorem wkZ_of {wk wl : Walk} {i : Nat} {S : Store} {d : D} (h : wkZ wk wl i S = some (some d)) : ∃ x y, wk i S = some (some x) ∧ wl i S = some (some y) ∧ d = .tup [x, y] := by
  unfold wkZ at h
  split at h
  · rename_i x y h1 h2
    cases h
    exact ⟨x, y, h1, h2, rfl⟩
  · cases h
  · cases h
  · cases h
theorem wkZ_end {wk wl : Walk} {i : Nat} {S : Store} (h : wkZ wk wl i S = some none) : (wk i S = some none ∧ ∃ o, wl i S = some o) ∨ (wl i S = some none ∧ ∃ x, wk i S = some (some x)) := by
  unfold wkZ at h
  split at h
  · cases h
  · rename_i o h1 h2
    exact .inl ⟨h1, o, h2⟩
  · rename_i x h1 h2
    exact .inr ⟨h2, x, h1⟩
  · cases h
theorem itz_ok {A B : Addr} {wk wl : Walk} (h : ItOk X.K ca w (Itl X.K A) wk) (k : ItOk X.K ca w (Itl X.K B) wl) : ItOk X.K ca w (Itz X.K A B) (wkZ wk wl) where
  goes := fun i w2 d e s2 hi => by
    obtain ⟨x, y, hx, hy, _⟩ := wkZ_of hi
    obtain ⟨xs, v, h1, h2⟩ := h.goes i w2 x e s2 hx
    obtain ⟨ys, u, k1, k2⟩ := k.goes i w2 y e s2 hy
    exact ⟨xs, ys, v, u, h1, k1, h2, k2⟩
  stops := fun i w2 e s2 hi => by
    rcases wkZ_end hi with ⟨hx, o, hy⟩ | ⟨hy, x, hx⟩
    · obtain ⟨xs, h1, h2⟩ := h.stops i w2 e s2 hx
      cases o with
      | none =>
        obtain ⟨ys, k1, k2⟩ := k.stops i w2 e s2 hy
        exact ⟨xs, ys, h1, k1, .inl h2⟩
      | some y =>
        obtain ⟨ys, u, k1, k2⟩ := k.goes i w2 y e s2 hy
        exact ⟨xs, ys, h1, k1, .inl h2⟩
    · obtain ⟨xs, v, h1, h2⟩ := h.goes i w2 x e s2 hx
      obtain ⟨ys, k1, k2⟩ := k.stops i w2 e s2 hy
      exact ⟨xs, ys, h1, k1, .inr k2⟩
  yields := fun i w2 d x H' e s2 hi y => by
    obtain ⟨z1, z2, h1, h2, rfl⟩ := wkZ_of hi
    obtain ⟨T, v, u, rfl, hT, rfl, hv, hu⟩ := y
    obtain ⟨w3, e1, e2, x3, s3, r3⟩ := h.yields i w2 z1 v w2.H e s2 h1 ⟨rfl, hv⟩
    obtain ⟨w4, f1, f2, x4, s4, r4⟩ := k.yields i w3 z2 u w3.H (e.trans x3) s3 (by rw [e2]; exact h2) ⟨rfl, by rw [e1]; exact hu⟩
    have hT4 : w4.H T = none := by rw [f1, e1]; exact hT
    have y4 := Ext.alloc (w := w4) (o := .tup [v, u]) hT4
    refine ⟨⟨upd w4.H T (.tup [v, u]), w4.ρ, w4.S⟩, by rw [← e1, ← f1], f2.trans e2, (x3.trans x4).trans y4, s4.alloc hT4, .tup (.inl (.inl upd_same)) (.cons ((r3.mono x4 s3).mono y4 s4) (.cons (r4.mono y4 s4) .nil))⟩
theorem itzT_ok {A B : Addr} {wk wl : Walk} (h : ItOk X.K ca w (Itt X.K A) wk) (k : ItOk X.K ca w (Itt X.K B) wl) : ItOk X.K ca w (RZ.ItzT X.K A B) (wkZ wk wl) where
  goes := fun i w2 d e s2 hi => by
    obtain ⟨x, y, hx, hy, _⟩ := wkZ_of hi
    obtain ⟨xs, v, h1, h2⟩ := h.goes i w2 x e s2 hx
    obtain ⟨ys, u, k1, k2⟩ := k.goes i w2 y e s2 hy
    exact ⟨xs, ys, v, u, h1, k1, h2, k2⟩
  stops := fun i w2 e s2 hi => by
    rcases wkZ_end hi with ⟨hx, o, hy⟩ | ⟨hy, x, hx⟩
    · obtain ⟨xs, h1, h2⟩ := h.stops i w2 e s2 hx
      cases o with
      | none =>
        obtain ⟨ys, k1, k2⟩ := k.stops i w2 e s2 hy
        exact ⟨xs, ys, h1, k1, .inl h2⟩
      | some y =>
        obtain ⟨ys, u, k1, k2⟩ := k.goes i w2 y e s2 hy
        exact ⟨xs, ys, h1, k1, .inl h2⟩
    · obtain ⟨xs, v, h1, h2⟩ := h.goes i w2 x e s2 hx
      obtain ⟨ys, k1, k2⟩ := k.stops i w2 e s2 hy
      exact ⟨xs, ys, h1, k1, .inr k2⟩
  yields := fun i w2 d x H' e s2 hi y => by
    obtain ⟨z1, z2, h1, h2, rfl⟩ := wkZ_of hi
    obtain ⟨T, v, u, rfl, hT, rfl, hv, hu⟩ := y
    obtain ⟨w3, e1, e2, x3, s3, r3⟩ := h.yields i w2 z1 v w2.H e s2 h1 ⟨rfl, hv⟩
    obtain ⟨w4, f1, f2, x4, s4, r4⟩ := k.yields i w3 z2 u w3.H (e.trans x3) s3 (by rw [e2]; exact h2) ⟨rfl, by rw [e1]; exact hu⟩
    have hT4 : w4.H T = none := by rw [f1, e1]; exact hT
    have y4 := Ext.alloc (w := w4) (o := .tup [v, u]) hT4
    refine ⟨⟨upd w4.H T (.tup [v, u]), w4.ρ, w4.S⟩, by rw [← e1, ← f1], f2.trans e2, (x3.trans x4).trans y4, s4.alloc hT4, .tup (.inl (.inl upd_same)) (.cons ((r3.mono x4 s3).mono y4 s4) (.cons (r4.mono y4 s4) .nil))⟩
theorem i_enum {kk : Nat} (hg : Gl X "enumerate") (hm : X.mg "enumerate" = none) (ha : PE X a (tE X.K ca W f)) (hs : starEach [a] X.env = [(false, eval a X.env)] := by rfl) :
    PI X (.Tuple elts kk tpos) (.Call (.Name "enumerate" p) [a] [] pos) (tIt X.K ca W (dEnumL f)) := by
  refine ⟨fun pins s σ H R I h => (pi_enum hg hm (pa_cons ha pa_nil hs) hs).run pins s σ H R I ?_⟩
  obtain ⟨w, env, e, sk, m, h⟩ := h
  refine ⟨w, env, e, sk, m, (Sat.bind h).mono (fun d S1 q => ?_) fun _ _ _ q => q⟩
  intro w1 hS x1 s1 v r
  subst hS
  cases z : lsW d w1.S with
  | none => rw [z] at q; exact q.elim
  | some wn =>
    rw [z] at q
    obtain ⟨A, vs, rfl, hA, ok⟩ := lsW_ok s1 r z
    exact ⟨A, vs, rfl, .inl (.inl hA), q w1 rfl x1 s1 _ (ite_ok ok)⟩
theorem i_zip {kk : Nat} (hg : Gl X "zip") (hm : X.mg "zip" = none) (ha : PE X a (tE X.K ca W f)) (hb : PE X b (tE X.K ca W g))
    (hs : starEach [a, b] X.env = (false, eval a X.env) :: starEach [b] X.env := by rfl) (hs2 : starEach [b] X.env = (false, eval b X.env) :: starEach [] X.env := by rfl) (hpl : (backTo pos (starEach [b] X.env)).any (·.1) = false := by rfl) :
    PI X (.Tuple elts kk tpos) (.Call (.Name "zip" p) [a, b] [] pos) (tIt X.K ca W (dZip2 f g)) := by
  refine ⟨fun pins s σ H R I h => (RZ.pi_zipA hg hm (pa_cons ha (pa_cons hb pa_nil hs2) hs) hs hpl).run pins s σ H R I ?_⟩
  obtain ⟨w, env, e, sk, m, h⟩ := h
  refine tE_bind (Qb := fun w => fun (wn : Walk × Nat) S' => Aft X.K ca w S' fun w' => ∀ J, ItOk X.K ca w' J wn.1 → R J w'.H) e sk m h (fun e q => q.later e) fun w1 d v s1 m1 r e1 h1 => ?_
  refine tE_bind (Qb := fun w => fun (wn : Walk × Nat) S' => Aft X.K ca w S' fun w' => ∀ J, ItOk X.K ca w' J wn.1 → R J w'.H) rfl s1 m1 h1 (fun e q => q.later e) fun w2 d2 v2 s2 m2 r2 e2 h2 => ?_
  have r' := r.mono e2 s1
  have lists : ((lsW d w2.S).bind fun w => (lsW d2 w2.S).map fun v => (wkZ w.1 v.1, min w.2 v.2)) = zipW d d2 w2.S → ∃ a b xs ys, [v, v2] = [.ref a, .ref b] ∧ ((SqL X.K w2.H a xs ∧ SqL X.K w2.H b ys ∧ R (Itz X.K a b) w2.H) ∨ (SqT X.K w2.H a xs ∧ SqT X.K w2.H b ys ∧ R (RZ.ItzT X.K a b) w2.H)) := fun ez => by
    rw [← ez] at h2
    cases z1 : lsW d w2.S with
    | none => rw [z1] at h2; exact h2.elim
    | some w1' =>
      cases z2 : lsW d2 w2.S with
      | none => rw [z1, z2] at h2; exact h2.elim
      | some w2' =>
        rw [z1, z2] at h2
        obtain ⟨A, vs, rfl, hA, ok⟩ := lsW_ok s2 r' z1
        obtain ⟨B, us, rfl, hB, ok2⟩ := lsW_ok s2 r2 z2
        exact ⟨A, B, vs, us, rfl, .inl ⟨.inl (.inl hA), .inl (.inl hB), Aft.here (w' := w2) h2 (.refl w2) s2 _ (itz_ok ok ok2)⟩⟩
  cases r' with
  | @tup A vs ds hA ra =>
    cases r2 with
    | @tup B us es hB rb =>
      exact ⟨A, B, vs, us, rfl, .inr ⟨hA, hB, Aft.here (w' := w2) h2 (.refl w2) s2 _ (itzT_ok (itt_ok s2 hA ra) (itt_ok s2 hB rb))⟩⟩
    | _ => exact lists rfl
  | _ => cases r2 <;> exact lists rfl
end

/-! ### calls by keyword -/
def perm {α : Type} (js : List Nat) (xs : List α) : List α := js.filterMap (xs[·]?)
def eCallP (Γ : Calls) (i : Nat) (js : List Nat) (g h : Dens) : Den := fun e S => (g e S).bind fun as S1 => (h e S1).bind fun bs S2 => Γ i (perm js (as ++ bs)) S2
section
variable {K : PySem.W.Frag} {ca : Nat → Addr} {w : Wd}
theorem perm_vals {vs : List V} {us : List Value} (r : Vals vs us) : ∀ js : List Nat, Vals (perm js vs) (perm js us)
  | [] => .nil
  | j :: js => by
    unfold perm
    rw [List.filterMap_cons, List.filterMap_cons]
    have ih := perm_vals r js
    unfold perm at ih
    have hl := r.length
    by_cases hj : j < vs.length
    · have hv : vs[j]? = some vs[j] := List.getElem?_eq_getElem hj
      obtain ⟨u, hu, ru⟩ := r.get hv
      rw [hv, hu]
      exact .cons ru ih
    · rw [List.getElem?_eq_none (Nat.le_of_not_lt hj), List.getElem?_eq_none (by omega)]
      exact ih
theorem perm_rep {vs : List V} {us : List D} (r : RepL K ca w vs us) : ∀ js : List Nat, RepL K ca w (perm js vs) (perm js us)
  | [] => .nil
  | j :: js => by
    unfold perm
    rw [List.filterMap_cons, List.filterMap_cons]
    have ih := perm_rep r js
    unfold perm at ih
    have hl := r.length
    by_cases hj : j < vs.length
    · have hv : vs[j]? = some vs[j] := List.getElem?_eq_getElem hj
      obtain ⟨u, hu, ru⟩ := r.getV hv
      rw [hv, hu]
      exact .cons ru ih
    · rw [List.getElem?_eq_none (Nat.le_of_not_lt hj), List.getElem?_eq_none (by omega)]
      exact ih
end
/-- how n positional values and keywords named ks bind -/
def BindsP (K : PySem.W.Frag) (fd : FuncData) (ps ks : List Str) (n : Nat) (js : List Nat) : Prop := ∀ (s : Shared) (us ws : List Value), us.length = n → ws.length = ks.length → BindsTo s fd ⟨us, ks.zip ws⟩ (ps.zip (perm js (us ++ ws)))
theorem bindsP {K : PySem.W.Frag} {x qual : Str} {params : Arguments} {body : List Stmt} {scope : Scope} {kws : List (Str × V)} {f : Addr} {fd : FuncData} {ps ks : List Str} {n : Nat} {js : List Nat} (F : FunD K x qual params body scope [] kws f fd)
    (h : ∀ (kV doc pm : Value) (an : Option Addr) (cdv ct : Value) (us ws : List Value), us.length = n → ws.length = ks.length → bindArgs (PySem.W.fnOf x qual params body scope .none kV doc pm an cdv ct) ⟨us, ks.zip ws⟩ = pure (ps.zip (perm js (us ++ ws)))) : BindsP K fd ps ks n js := by
  obtain ⟨oc, od, dV, kV, doc, pm, an, cdv, ct, osl, rfl, lk, hcd, hD, hK⟩ := F.ex
  rcases hD with ⟨_, rfl⟩ | ⟨e, _⟩
  · exact fun s us ws hl hk => .of_eq (h kV doc pm an cdv ct us ws hl hk)
  · exact absurd rfl e
def tEk (K : PySem.W.Frag) (ca : Nat → Addr) (W : WX) (f : Dens) : TA := tEs K ca W f
section
variable {X : Cx} {ca : Nat → Addr} {W : WX} {pos pos' p apos cpos tpos kpos : Pos} {f g h o i : Den} {gs hs : Dens} {a b e elt eo ei : Expr} {es elts : List Expr} {kws : List Keyword} {w : Wd} {nm : Option Str}
theorem k_nil : PK X [] (tEs X.K ca W dNil) := ⟨fun pos pins s σ H Q I h => pk_nil.run pos pins s σ H Q I (by
  obtain ⟨w, env, e, sk, m, h⟩ := h
  subst e
  exact Aft.here (w' := w) h (.refl w) sk [] .nil)⟩
theorem k_cons (ha : PE X a (tE X.K ca W f)) (hk : PK X kws (tEs X.K ca W gs)) : PK X (⟨nm, a, kpos⟩ :: kws) (tEs X.K ca W (dCons f gs)) := ⟨fun pos pins s σ H Q I h => (pk_cons ha hk).run pos pins s σ H Q I (by
  obtain ⟨w, env, e, s, m, h⟩ := h
  refine tE_bind (Qb := fun w => QL X.K ca w Q) e s m h (fun e q => QL.later e q) fun w1 d v s1 m1 r e1 h1 => ?_
  refine tEs_bind (Qb := fun w => QL X.K ca w Q) rfl s1 m1 h1 (fun e q => QL.later e q) fun w2 d2 v2 s2 m2 r2 e2 h2 => ?_
  exact Aft.here (w' := w2) h2 (.refl w2) s2 _ (.cons (r.mono e2 s1) r2))⟩
theorem run_P {pins : List (Addr × Obj)} {σ : St} {H : Hp} {s : Shared} {Q : VK} {us ws : List Value} {vs zs : List V} {k n : Nat} {fa : Addr} {fd : FuncData} {ps ks : List Str} {js : List Nat} {sp : Sp} {E : XK} (F : FnOk X.prog X.w X.K X.mg X.base (L2.CX X.prog X.w) k fa fd ps sp) (hr : Room k X.A)
    (hb : BindsP X.K fd ps ks n js) (hx : PassesAt (L2.CX X.prog X.w) X σ E) (I : Inv X pins σ H s) (r : Vals vs us) (rz : Vals zs ws) (l1 : vs.length = n) (l2 : zs.length = ks.length) (h : sp (perm js (vs ++ zs)) H Q E) :
    wpAny (model X.prog X.w) X.A (call (.ref fa) us (ks.zip ws)) (EP X pins σ Q) X.xe s := by
  have b := hb s us ws (by rw [← r.length]; exact l1) (by rw [← rz.length]; exact l2)
  refine wpAny_call (codeAny_mono (F.run X.A X.stack s H ⟨us, ks.zip ws⟩ _ _ Q E hr I.env0 b (perm_vals (r.append rz) js) h) fun r s' hq => ?_)
  cases r with
  | error e => exact hx pins H s e s' I hq
  | ok fl =>
    cases fl with
    | ret u => exact I.after hq
    | next => exact False.elim hq
    | brk => exact False.elim hq
    | cont => exact False.elim hq
theorem e_callP {Γ : Calls} {i k n l : Nat} {fa : Addr} {fd : FuncData} {ps ks : List Str} {js : List Nat} {x : Str} (Fn : FnOk X.prog X.w X.K X.mg X.base (L2.CX X.prog X.w) k fa fd ps (spF X.K ca Γ i l)) (hr : Room k X.A) (hg : Gl X x) (hm : X.mg x = some (.ref fa))
    (hk : PySem.W.keepIn X.K (.ref fa) = true) (hb : BindsP X.K fd ps ks n js) (tk : Takes X W) (ha : PA X (a :: es) (tEs X.K ca W gs)) (hkw : PK X kws (tEs X.K ca W hs)) (hl : Len gs n) (hl2 : Len hs ks.length) (hp : ∀ xs : List V, xs.length = n + ks.length → (perm js xs).length = l)
    (hall : (backToKw pos (keywordEach kws X.env)).all (·.1.isSome) = true := by rfl) (hks : (backToKw pos (keywordEach kws X.env)).filterMap (·.1) = ks := by rfl)
    (hdb : (x == ("__debug__" : Str)) = false := by decide) (he : starEach (a :: es) X.env = (false, eval a X.env) :: starEach es X.env := by rfl)
    (hpl : ((backTo pos (starEach (a :: es) X.env)).any (·.1) || (backToKw pos (keywordEach kws X.env)).any (·.1.isNone)) = false := by rfl) :
    PE X (.Call (.Name x p) (a :: es) kws pos) (tE X.K ca W (eCallP Γ i js gs hs)) := by
  refine ⟨fun pins s σ H Q I h => ?_⟩
  obtain ⟨w, env, e, sk, m, h⟩ := h
  unfold eCallP at h
  refine wpAny_Call_Name_kw (ld_glob I hg hm ?_ hdb)
  have rd : tEs X.K ca W gs σ H fun vs H1 => tEs X.K ca W hs σ H1 fun zs H2 => vs.length = n ∧ zs.length = ks.length ∧ spF X.K ca Γ i l (perm js (vs ++ zs)) H2 Q (fun cls d H' => W cls d σ H') := by
    have hl0 : ∀ ds S', gs env w.S = .ok ds S' → ds.length = n := fun ds S' q => hl _ _ _ _ q
    refine ⟨w, env, e, sk, m, ?_⟩
    cases q : gs env w.S with
    | bad => rw [q] at h; exact h
    | err c v S1 => rw [q] at h; exact h
    | ok ds S1 =>
      rw [q] at h
      intro w1 hS x1 s1 vs r
      subst hS
      have h1 : Sat ((hs env w1.S).bind fun bs S2 => Γ i (perm js (ds ++ bs)) S2) (QV X.K ca w1 Q) (QE X.K ca w1 W σ) := Sat.mono h (fun d S z => QV.later x1 z) (fun c v S z => QE.later x1 z)
      have hl1 : ∀ ds S', hs env w1.S = .ok ds S' → ds.length = ks.length := fun ds S' q => hl2 _ _ _ _ q
      refine ⟨w1, env, rfl, s1, m.mono x1 sk, ?_⟩
      cases q2 : hs env w1.S with
      | bad => rw [q2] at h1; exact h1
      | err c v S1 => rw [q2] at h1; exact h1
      | ok ds2 S2 =>
        rw [q2] at h1
        intro w2 hS x2 s2 zs r2
        subst hS
        have e1 : vs.length = n := by rw [r.length]; exact hl0 _ _ q
        have e2 : zs.length = ks.length := by rw [r2.length]; exact hl1 _ _ q2
        exact ⟨e1, e2, w2, _, rfl, hp _ (by rw [List.length_append, e1, e2]), s2, perm_rep ((r.mono x2 s1).append r2) js, Sat.mono h1 (fun d S z => QV.later x2 z) (fun c v S z => Aft.later z x2)⟩
  refine PySem.W.callWith_KW (h₀ := X.base) I.ok.mod.kin hk hall (thn (ha.run pos pins s σ H _ I rd) fun us s1 ⟨vs, H1, I1, r, q⟩ => ?_) hpl he
  refine thn (hkw.run pos pins s1 σ H1 _ I1 q) fun ws s2 ⟨zs, H2, I2, rz, l1, l2, q2⟩ => ⟨I2.kIn, ?_⟩
  rw [hks]
  exact run_P Fn hr hb (passAt tk σ) I2 r rz l1 l2 q2
theorem e_callP0 {Γ : Calls} {i k l : Nat} {fa : Addr} {fd : FuncData} {ps ks : List Str} {js : List Nat} {x : Str} (Fn : FnOk X.prog X.w X.K X.mg X.base (L2.CX X.prog X.w) k fa fd ps (spF X.K ca Γ i l)) (hr : Room k X.A) (hg : Gl X x) (hm : X.mg x = some (.ref fa))
    (hk : PySem.W.keepIn X.K (.ref fa) = true) (hb : BindsP X.K fd ps ks 0 js) (tk : Takes X W) (hkw : PK X kws (tEs X.K ca W hs)) (hl2 : Len hs ks.length) (hp : ∀ xs : List V, xs.length = ks.length → (perm js xs).length = l)
    (hall : (backToKw pos (keywordEach kws X.env)).all (·.1.isSome) = true := by rfl) (hks : (backToKw pos (keywordEach kws X.env)).filterMap (·.1) = ks := by rfl)
    (hdb : (x == ("__debug__" : Str)) = false := by decide)
    (hpl : ((backTo pos (starEach [] X.env)).any (·.1) || (backToKw pos (keywordEach kws X.env)).any (·.1.isNone)) = false := by rfl) :
    PE X (.Call (.Name x p) [] kws pos) (tE X.K ca W (eCallP Γ i js dNil hs)) := by
  refine ⟨fun pins s σ H Q I h => ?_⟩
  obtain ⟨w, env, e, sk, m, h⟩ := h
  have h0 : Sat ((hs env w.S).bind fun bs S2 => Γ i (perm js bs) S2) (QV X.K ca w Q) (QE X.K ca w W σ) := h
  refine wpAny_Call_Name_kw (ld_glob I hg hm ?_ hdb)
  have rd : tEs X.K ca W hs σ H fun zs H2 => zs.length = ks.length ∧ spF X.K ca Γ i l (perm js zs) H2 Q (fun cls d H' => W cls d σ H') := by
    have hl1 : ∀ ds S', hs env w.S = .ok ds S' → ds.length = ks.length := fun ds S' q => hl2 _ _ _ _ q
    refine ⟨w, env, e, sk, m, ?_⟩
    cases q2 : hs env w.S with
    | bad => rw [q2] at h0; exact h0
    | err c v S1 => rw [q2] at h0; exact h0
    | ok ds2 S2 =>
      rw [q2] at h0
      intro w2 hS x2 s2 zs r2
      subst hS
      have e2 : zs.length = ks.length := by rw [r2.length]; exact hl1 _ _ q2
      exact ⟨e2, w2, _, rfl, hp _ e2, s2, perm_rep r2 js, Sat.mono h0 (fun d S z => QV.later x2 z) (fun c v S z => Aft.later z x2)⟩
  refine PySem.W.callWith_KW0 (h₀ := X.base) I.ok.mod.kin hk hall (thn (hkw.run pos pins s σ H _ I rd) fun ws s2 ⟨zs, H2, I2, rz, l2, q2⟩ => ⟨I2.kIn, ?_⟩) hpl
  rw [hks]
  exact run_P (n := 0) Fn hr hb (passAt tk σ) I2 .nil rz rfl l2 q2

/-! ### constants of the module -/
theorem e_glob {x : Str} {v : V} {u : Value} {d : D} (hg : Gl X x) (hm : X.mg x = some u) (r : RelV v u) (rd : ∀ w : Wd, Rep X.K ca w v d) (hd : (x == ("__debug__" : Str)) = false := by decide) : PE X (.Name x pos) (tE X.K ca W (eC d)) :=
  e_c (pe_glob hg hm r hd) fun w _ => rd w
end
end Py

set_option maxHeartbeats 4000000
/-! PyK: classes of errors: what the written part says of them, isinstance, an exception's value. -/
namespace Py
open PySem PySem.Spec PyProof.Rows L2

inductive Ty where
  | int | bool | str | tuple | list | none | dict
  deriving DecidableEq
def Ty.name : Ty → String
  | .int => "int" | .bool => "bool" | .str => "str" | .tuple => "tuple" | .list => "list" | .none => "NoneType" | .dict => "dict"
def Ty.sub (a b : Ty) : Bool := match a, b with
  | .int, .int => true | .bool, .bool => true | .str, .str => true | .tuple, .tuple => true | .list, .list => true | .none, .none => true | .dict, .dict => true | .bool, .int => true | _, _ => false
theorem kit_tyty (a b : Ty) : kitB a.name b.name = some (a.sub b) := by cases a <;> cases b <;> decide +kernel
theorem kit_tyve (a : Ty) : kitB a.name "ValueError" = some false := by cases a <;> decide +kernel
/-- a class that is asked for -/
inductive Cl where
  | ty (t : Ty) | ve | own (c : Nat)
/-- what a value is -/
inductive Kd where
  | ty (t : Ty) | exc (c : Nat)
/-- anc: each class's own number and those of its ancestors -/
abbrev Anc := List (List Nat)
def kdOf (anc : Anc) (d : D) (S : Store) : Option Kd := match d with
  | .non => some (.ty .none) | .bl _ => some (.ty .bool) | .int _ => some (.ty .int) | .str _ => some (.ty .str) | .tup _ => some (.ty .tuple) | .lst _ => some (.ty .list) | .fls _ => some (.ty .list) | .dct _ _ => some (.ty .dict)
  | .ref n => (match S[n]? with | some (.lst _) => some (.ty .list) | _ => none)
  | .exc c _ => if c < anc.length then some (.exc c) else none
def isK (anc : Anc) (k : Kd) (c : Cl) : Bool := match k, c with
  | .ty a, .ty b => a.sub b
  | .ty _, _ => false
  | .exc _, .ty _ => false
  | .exc _, .ve => true
  | .exc k, .own c => (anc.getD k []).contains c
def Cl.okB (anc : Anc) : Cl → Bool
  | .own c => decide (c < anc.length) | _ => true
def eIsi (anc : Anc) (cs : List Cl) (f : Den) : Den := fun e S => (f e S).bind fun d S1 => optR (kdOf anc d S1) fun k => .ok (.bl (cs.any (isK anc k))) S1
def exVal (anc : Anc) (d : D) (S : Store) : R D := match d with | .exc c v => if c < anc.length then .ok v S else .bad | _ => .bad
def eVal (anc : Anc) (f : Den) : Den := fun e S => (f e S).bind fun d S1 => exVal anc d S1

/-! ### the facts -/
section
variable (K : PySem.W.Frag) (ca : Nat → Addr) (anc : Anc)
structure ClsOk : Prop where
  ee : ∀ k c, k < anc.length → c < anc.length → PySem.W.kitOne K (.ref (ca k)) (.ref (ca c)) = some ((anc.getD k []).contains c)
  ex : ∀ k c, k < anc.length → c < anc.length → PySem.W.exmOne K (.ref (ca k)) (.ref (ca c)) = some ((anc.getD k []).contains c)
  ev : ∀ k, k < anc.length → PySem.W.kitOne K (.ref (ca k)) (.type "ValueError") = some true
  xv : ∀ k, k < anc.length → PySem.W.exmOne K (.ref (ca k)) (.type "ValueError") = some true
  et : ∀ k, k < anc.length → ∀ t : Ty, PySem.W.kitOne K (.ref (ca k)) (.type t.name) = some false
  te : ∀ (t : Ty) c, c < anc.length → PySem.W.kitOne K (.type t.name) (.ref (ca c)) = some false
  oex : ∀ c, c < anc.length → OexC K (ca c)
  xf : ∀ c, c < anc.length → XfC K (ca c)
  cls : ∀ c, c < anc.length → (PySem.W.clsIn K (ca c)).isSome = true ∧ PySem.W.findIn K (.ref (ca c)) "__class__" = some (some (.builtin "object.__class__")) ∧ PySem.W.mroIn K (ca c) (.type "object") = some true
  get : PySem.W.specialIn K (.builtin "object.__class__") "__get__" = some (some (.builtin "getset_descriptor.__get__")) ∧ PySem.W.takesIn K (.builtin "object.__class__") = some true
  noval : ∀ c, c < anc.length → PySem.W.findIn K (.ref (ca c)) "value" = some none
def oexB (C : Addr) : Bool := (match K.lookup C with
  | some ⟨.type "type", _, .cls cd, sl⟩ => (match cd.mro, sl.toList with
    | .ref C' :: bm, [_, _, _, _, some (.builtin n), _] => (C' == C && n == "ValueError.__new__") && (!cd.hasDel && (cd.hasDict && PySem.HandSPX.refsVE bm))
    | _, _ => false)
  | _ => false) && (decide (PySem.W.findIn K (.ref C) "__setattr__" = some (some (.builtin "object.__setattr__"))) && (decide (PySem.W.subIn K (.ref C) (.type "BaseException") = some true) &&
    (decide (PySem.W.typeIn K (.ref C) = some (.type "type")) && PySem.W.keepIn K (.ref C))))
end
theorem oexB_ok {K : PySem.W.Frag} {C : Addr} (h : oexB K C = true) : OexC K C := by
  unfold oexB at h
  rw [Bool.and_eq_true, Bool.and_eq_true, Bool.and_eq_true, Bool.and_eq_true] at h
  obtain ⟨h1, h2, h3, h4, h5⟩ := h
  refine ⟨?_, of_decide_eq_true h2, of_decide_eq_true h3, of_decide_eq_true h4, h5⟩
  split at h1
  · rename_i dd cd sl ho
    split at h1
    · rename_i C' bm k0 k1 k2 k3 n k5 hm hs
      simp only [Bool.and_eq_true, beq_iff_eq, Bool.not_eq_true'] at h1
      obtain ⟨⟨rfl, rfl⟩, hdel, hdi, hv⟩ := h1
      obtain ⟨nm, bs, mro, ns, qn, hd, sn, sub, ab, col, del⟩ := cd
      dsimp only at hm hdel hdi
      subst hm hdel hdi
      have hsl : sl = #[k0, k1, k2, k3, some (.builtin "ValueError.__new__"), k5] := by
        obtain ⟨l⟩ := sl
        simp only at hs
        rw [hs]
      subst hsl
      exact ⟨_, _, _, _, _, _, _, _, _, _, _, _, _, _, _, ho, hv⟩
    · cases h1
  · cases h1
section
variable (K : PySem.W.Frag) (ca : Nat → Addr) (anc : Anc)
def tys : List Ty := [.int, .bool, .str, .tuple, .list, .none, .dict]
def clsB : Bool := (List.range anc.length).all (fun k =>
    (List.range anc.length).all (fun c => decide (PySem.W.kitOne K (.ref (ca k)) (.ref (ca c)) = some ((anc.getD k []).contains c)) && decide (PySem.W.exmOne K (.ref (ca k)) (.ref (ca c)) = some ((anc.getD k []).contains c))) &&
    (decide (PySem.W.kitOne K (.ref (ca k)) (.type "ValueError") = some true) && (decide (PySem.W.exmOne K (.ref (ca k)) (.type "ValueError") = some true) &&
    (tys.all (fun t => decide (PySem.W.kitOne K (.ref (ca k)) (.type t.name) = some false) && decide (PySem.W.kitOne K (.type t.name) (.ref (ca k)) = some false)) &&
    (oexB K (ca k) && (xfB K (ca k) && ((PySem.W.clsIn K (ca k)).isSome && (decide (PySem.W.findIn K (.ref (ca k)) "__class__" = some (some (.builtin "object.__class__"))) &&
    (decide (PySem.W.mroIn K (ca k) (.type "object") = some true) && decide (PySem.W.findIn K (.ref (ca k)) "value" = some none)))))))))) &&
  (decide (PySem.W.specialIn K (.builtin "object.__class__") "__get__" = some (some (.builtin "getset_descriptor.__get__"))) && decide (PySem.W.takesIn K (.builtin "object.__class__") = some true))
end
theorem tys_all (t : Ty) : t ∈ tys := by cases t <;> decide
theorem clsB_ok {K : PySem.W.Frag} {ca : Nat → Addr} {anc : Anc} (h : clsB K ca anc = true) : ClsOk K ca anc := by
  unfold clsB at h
  rw [Bool.and_eq_true, Bool.and_eq_true, List.all_eq_true] at h
  obtain ⟨h, g1, g2⟩ := h
  have one : ∀ k, k < anc.length → _ := fun k hk => h k (List.mem_range.mpr hk)
  have two : ∀ k, k < anc.length → (∀ c, c < anc.length → PySem.W.kitOne K (.ref (ca k)) (.ref (ca c)) = some ((anc.getD k []).contains c) ∧ PySem.W.exmOne K (.ref (ca k)) (.ref (ca c)) = some ((anc.getD k []).contains c)) ∧
      PySem.W.kitOne K (.ref (ca k)) (.type "ValueError") = some true ∧ PySem.W.exmOne K (.ref (ca k)) (.type "ValueError") = some true ∧
      (∀ t : Ty, PySem.W.kitOne K (.ref (ca k)) (.type t.name) = some false ∧ PySem.W.kitOne K (.type t.name) (.ref (ca k)) = some false) ∧ OexC K (ca k) ∧ XfC K (ca k) ∧ (PySem.W.clsIn K (ca k)).isSome = true ∧
      PySem.W.findIn K (.ref (ca k)) "__class__" = some (some (.builtin "object.__class__")) ∧ PySem.W.mroIn K (ca k) (.type "object") = some true ∧ PySem.W.findIn K (.ref (ca k)) "value" = some none := fun k hk => by
    have q := one k hk
    rw [Bool.and_eq_true, Bool.and_eq_true, Bool.and_eq_true, Bool.and_eq_true, Bool.and_eq_true, Bool.and_eq_true, Bool.and_eq_true, Bool.and_eq_true, Bool.and_eq_true, List.all_eq_true, List.all_eq_true] at q
    obtain ⟨a1, a2, a3, a4, a5, a6, a7, a8, a9, a10⟩ := q
    refine ⟨fun c hc => ?_, of_decide_eq_true a2, of_decide_eq_true a3, fun t => ?_, oexB_ok a5, xfB_ok a6, a7, of_decide_eq_true a8, of_decide_eq_true a9, of_decide_eq_true a10⟩
    · have z := a1 c (List.mem_range.mpr hc)
      rw [Bool.and_eq_true] at z
      exact ⟨of_decide_eq_true z.1, of_decide_eq_true z.2⟩
    · have z := a4 t (tys_all t)
      rw [Bool.and_eq_true] at z
      exact ⟨of_decide_eq_true z.1, of_decide_eq_true z.2⟩
  exact {
    ee := fun k c hk hc => ((two k hk).1 c hc).1
    ex := fun k c hk hc => ((two k hk).1 c hc).2
    ev := fun k hk => (two k hk).2.1
    xv := fun k hk => (two k hk).2.2.1
    et := fun k hk t => ((two k hk).2.2.2.1 t).1
    te := fun t c hc => ((two c hc).2.2.2.1 t).2
    oex := fun k hk => (two k hk).2.2.2.2.1
    xf := fun k hk => (two k hk).2.2.2.2.2.1
    cls := fun k hk => ⟨(two k hk).2.2.2.2.2.2.1, (two k hk).2.2.2.2.2.2.2.1, (two k hk).2.2.2.2.2.2.2.2.1⟩
    get := ⟨of_decide_eq_true g1, of_decide_eq_true g2⟩
    noval := fun k hk => (two k hk).2.2.2.2.2.2.2.2.2 }

/-! ### isinstance -/
def clU (ca : Nat → Addr) : Cl → Value
  | .ty t => .type t.name | .ve => .type "ValueError" | .own c => .ref (ca c)
def clV (ca : Nat → Addr) : Cl → V
  | .ty t => .ty t.name | .ve => .ty "ValueError" | .own c => .ref (ca c)
def kdU (ca : Nat → Addr) : Kd → Value
  | .ty t => .type t.name | .exc c => .ref (ca c)
section
variable {X : Cx} {ca : Nat → Addr} {anc : Anc} {W : WX} {pos pos' p apos cpos tpos : Pos} {f g h o i : Den} {gs hs : Dens} {a b e : Expr} {es : List Expr} {w : Wd}
theorem clV_rel (c : Cl) : ClsV (clV ca c) (clU ca c) := by
  cases c with
  | ty t => exact .ty _
  | ve => exact .ty _
  | own c => exact .own _
theorem kit_isK {k : Kd} {c : Cl} (C : ClsOk X.K ca anc) (hk : ∀ n, k = .exc n → n < anc.length) (hc : c.okB anc = true) : PySem.W.kitOne X.K (kdU ca k) (clU ca c) = some (isK anc k c) := by
  cases k with
  | ty t =>
    cases c with
    | ty s => exact kit_ty (kit_tyty t s)
    | ve => exact kit_ty (kit_tyve t)
    | own c => exact C.te t c (of_decide_eq_true hc)
  | exc n =>
    have hn := hk n rfl
    cases c with
    | ty s => exact C.et n hn s
    | ve => exact C.ev n hn
    | own c => exact C.ee n c hn (of_decide_eq_true hc)
theorem kitAny_isK {k : Kd} (C : ClsOk X.K ca anc) (hk : ∀ n, k = .exc n → n < anc.length) : ∀ {cs : List Cl}, cs.all (Cl.okB anc) = true → PySem.W.kitAny X.K (kdU ca k) (cs.map (clU ca)) = some (cs.any (isK anc k))
  | [], _ => rfl
  | c :: cs, h => by
    rw [List.all_cons, Bool.and_eq_true] at h
    have one := kit_isK C hk h.1
    have rest := kitAny_isK C hk h.2
    rw [List.map_cons, List.any_cons]
    refine kitAny_cons one (fun z => ?_) (fun z => ?_)
    · rw [z, Bool.false_or]; exact rest
    · rw [z, Bool.true_or]
/-- a caught exception as the heap has it -/
theorem exc_inst {pins : List (Addr × Obj)} {σ : St} {s : Shared} {a C d : Addr} {v : V} (I : Inv X pins σ w.H s) (h1 : w.H a = some (exk a C d)) (h2 : w.H d = some (.xd [("value", v)])) :
    ∃ oe od, PySem.W.InstAt s.heap a oe C (some od) ∧ ∃ u, PySem.W.lookIn "value" od = some (some u) ∧ RelV v u := by
  obtain ⟨oe, vs, he, hc, hd, hf⟩ := (show ObjOk X.prog X.w w.H s.heap a (exk a C d) from I.hok a _ h1).1
  obtain ⟨mA, hns, hr⟩ := (show ObjOk X.prog X.w w.H s.heap d (.xd [("value", v)]) from I.hok d _ h2)
  obtain ⟨od, ho, hl⟩ := lookIn_ns hns
  obtain ⟨u, hu, ru⟩ := RelO.some_of (v := v) (o := mA "value") (by have z := hr "value"; simpa using z)
  exact ⟨oe, od, ⟨he, hc, by unfold PySem.W.notCls; rw [hf] <;> rfl, by rw [hd]; exact ho⟩, u, by rw [hl, hu], ru⟩
theorem kit_rep {pins : List (Addr × Obj)} {σ : St} {s : Shared} {x : V} {u : Value} {d : D} {k : Kd} (C : ClsOk X.K ca anc) (I : Inv X pins σ w.H s) (sk : SOk X.K ca w) (rx : RelV x u) (r : Rep X.K ca w x d) (hk : kdOf anc d w.S = some k) :
    ∃ P : Heap → Prop, PySem.W.KitX X.K u (kdU ca k) P ∧ P s.heap ∧ u ≠ .builtin "__main__.__loader__#opaque" := by
  cases r with
  | non => cases hk; exact kit_of I rx (.base .non)
  | bl b => cases hk; exact kit_of I rx (.base (.bl b))
  | int i => cases hk; exact kit_of I rx (.base (.int i))
  | str x => cases hk; exact kit_of I rx (.base (.str x))
  | tup h1 r =>
    cases hk
    rcases h1 with (h1 | ⟨o, h1⟩) | ⟨o, its, n, h1, h2, _⟩
    · exact kit_of I rx (.base (.tup h1))
    · exact kit_of I rx (.fTuple h1)
    · exact kit_of I rx (.kTuple h1 h2)
  | lst h1 n r => cases hk; exact kit_of I rx (.base (.lst h1))
  | dct h1 n l r => cases hk; exact kit_of I rx (.base (.dK h1))
  | fls h =>
    cases hk
    rcases h with ⟨o, h⟩ | ⟨o, its, n, h, h2, _⟩
    · exact kit_of I rx (.base (.frz h))
    · exact kit_of I rx (.kList h h2)
  | @ref n hn =>
    unfold kdOf at hk
    dsimp only at hk
    cases q : w.S[n]? with
    | none => rw [q] at hk; cases hk
    | some o =>
      cases o with
      | dead => rw [q] at hk; cases hk
      | lst xs =>
        rw [q] at hk
        cases hk
        obtain ⟨vs, hv, _⟩ := sk.live n xs q
        exact kit_of I rx (.base (.lst hv))
  | @exc a d c v x h1 h2 n1 n2 r =>
    unfold kdOf at hk
    dsimp only at hk
    by_cases hc : c < anc.length
    · rw [if_pos hc] at hk
      cases hk
      obtain rfl : u = Value.ref a := rx
      obtain ⟨oe, od, J, _⟩ := exc_inst I h1 h2
      have T := C.xf c hc
      obtain ⟨k1, k2, k3⟩ := C.cls c hc
      exact ⟨_, PySem.W.kitx_exc (x := a) (ox := oe) (od := some od) k1 T.ga T.gg T.exC k2 C.get.1 C.get.2 k3, J, fun z => nomatch z⟩
    · rw [if_neg hc] at hk; cases hk
theorem kd_lt {d : D} {S : Store} {k : Kd} (h : kdOf anc d S = some k) : ∀ n, k = .exc n → n < anc.length := by
  intro n e
  subst e
  unfold kdOf at h
  split at h
  all_goals first
    | (cases h; done)
    | skip
  · split at h <;> cases h
  · split at h
    · cases h; assumption
    · cases h
/-- isinstance(x, C) -/
def rIs1 (X : Cx) (ca : Nat → Addr) (anc : Anc) (c : Cl) : List V → Hp → VK → Prop := fun xs H Q => ∃ w x d k, w.H = H ∧ SOk X.K ca w ∧ xs = [x, clV ca c] ∧ Rep X.K ca w x d ∧ kdOf anc d w.S = some k ∧ Q (.bl (isK anc k c)) H
theorem call_is1 {c : Cl} (C : ClsOk X.K ca anc) (hc : c.okB anc = true) : CallR X (.builtin "isinstance") (rIs1 X ca anc c) := by
  intro pins s σ H xs us Q I r h
  obtain ⟨w, x, d, k, rfl, sk, rfl, rx, hk, q⟩ := h
  obtain ⟨u1, u2, rfl, r1, r2⟩ := vals2 r
  have e2 := (clV_rel (ca := ca) c).eq r2
  subst e2
  obtain ⟨P, Z, p, hx⟩ := kit_rep C I sk r1 rx hk
  exact PySem.W.kia_one Z I.kIn p (kit_isK C (kd_lt hk) hc) hx fun tk => ⟨.bl (isK anc k c), w.H, I.tok tk, rfl, q⟩
def rIsN (X : Cx) (ca : Nat → Addr) (anc : Anc) (cs : List Cl) : List V → Hp → VK → Prop := fun xs H Q => ∃ w x d k tp, w.H = H ∧ SOk X.K ca w ∧ xs = [x, .ref tp] ∧ H tp = some (.tup (cs.map (clV ca))) ∧ Rep X.K ca w x d ∧ kdOf anc d w.S = some k ∧ Q (.bl (cs.any (isK anc k))) H
theorem paired_cl : ∀ cs : List Cl, Paired ClsV (cs.map (clV ca)) (cs.map (clU ca))
  | [] => .nil
  | c :: cs => .cons (clV_rel c) (paired_cl cs)
theorem call_isN {cs : List Cl} (C : ClsOk X.K ca anc) (hc : cs.all (Cl.okB anc) = true) : CallR X (.builtin "isinstance") (rIsN X ca anc cs) := by
  intro pins s σ H xs us Q I r h
  obtain ⟨w, x, d, k, tp, rfl, sk, rfl, hT, rx, hk, q⟩ := h
  obtain ⟨u1, u2, rfl, r1, r2⟩ := vals2 r
  cases (show u2 = Value.ref tp from r2)
  obtain ⟨P, Z, p, hx⟩ := kit_rep C I sk r1 rx hk
  obtain ⟨_, its, rv, o, h1, h2, n, h3⟩ := (show ObjOk X.prog X.w w.H s.heap tp (.tup (cs.map (clV ca))) from I.hok tp _ hT)
  have e3 := ClsV.all (paired_cl (ca := ca) cs) rv
  subst e3
  obtain ⟨oc, od, dt, sl⟩ := o
  simp only at h2 h3
  subst h2 h3
  exact PySem.W.kia_tup Z I.kIn p h1 (kitAny_isK C (kd_lt hk) hc) hx fun tk => ⟨.bl (cs.any (isK anc k)), w.H, I.tok tk, rfl, q⟩
theorem e_isi {c : Cl} (C : ClsOk X.K ca anc) (hc : c.okB anc = true) (hg : Gl X "isinstance") (hm : X.mg "isinstance" = none) (ha : PE X a (tE X.K ca W f)) (hb : PE X b (tC (clV ca c)))
    (hs : starEach [a, b] X.env = (false, eval a X.env) :: starEach [b] X.env := by rfl) (hs2 : starEach [b] X.env = (false, eval b X.env) :: starEach [] X.env := by rfl) (hpl : (backTo pos (starEach [b] X.env)).any (·.1) = false := by rfl) :
    PE X (.Call (.Name "isinstance" p) [a, b] [] pos) (tE X.K ca W (eIsi anc [c] f)) :=
  PE.imp (pe_callB (call_is1 C hc) hg hm (by decide +kernel) (pa_cons ha (pa_cons hb pa_nil hs2) hs) (by decide) (by decide) hs hpl) fun σ H Q ⟨w, env, e, s, m, h⟩ => by
    refine tE_bind (Qb := fun w => QV X.K ca w Q) e s m h (fun e q => QV.later e q) fun w1 d v s1 m1 r e1 h1 => ?_
    cases q : kdOf anc d w1.S with
    | none => rw [q] at h1; exact h1.elim
    | some k =>
      rw [q] at h1
      have z := sat_here s1 (show QV X.K ca w1 Q (.bl ([c].any (isK anc k))) w1.S from h1) (.bl _)
      refine ⟨w1, v, d, k, rfl, s1, rfl, r, q, ?_⟩
      have e : [c].any (isK anc k) = isK anc k c := by simp
      rw [e] at z
      exact z
/-- the classes of a tuple -/
def tCls (ca : Nat → Addr) (cs : List Cl) : TA := fun σ H Q => Q (cs.map (clV ca)) H
theorem cls_nil : PA X [] (tCls ca []) := pa_nil
theorem cls_cons {c : Cl} {cs : List Cl} (ha : PE X a (tC (clV ca c))) (hb : PA X es (tCls ca cs)) (hst : starEach (a :: es) X.env = (false, eval a X.env) :: starEach es X.env := by rfl) : PA X (a :: es) (tCls ca (c :: cs)) := pa_cons ha hb hst
theorem c_ty {x : Str} {t : Ty} (hg : Gl X x) (hm : X.mg x = none) (hv : bootBuiltins x = some (.type t.name)) (hn : x ≠ "__name__" := by decide) (hd : (x == ("__debug__" : Str)) = false := by decide) : PE X (.Name x pos) (tC (clV ca (.ty t))) := pe_bltn hg hm hv rfl hn hd
theorem c_ve {x : Str} (hg : Gl X x) (hm : X.mg x = none) (hv : bootBuiltins x = some (.type "ValueError")) (hn : x ≠ "__name__" := by decide) (hd : (x == ("__debug__" : Str)) = false := by decide) : PE X (.Name x pos) (tC (clV ca .ve)) := pe_bltn hg hm hv rfl hn hd
theorem c_own {x : Str} {c : Nat} (hg : Gl X x) (hm : X.mg x = some (.ref (ca c))) (hd : (x == ("__debug__" : Str)) = false := by decide) : PE X (.Name x pos) (tC (clV ca (.own c))) := pe_glob hg hm rfl hd
theorem e_isiN {cs : List Cl} {x1} (C : ClsOk X.K ca anc) (hc : cs.all (Cl.okB anc) = true) (hl : cs.length ≤ sizeLine) (hg : Gl X "isinstance") (hm : X.mg "isinstance" = none) (ha : PE X a (tE X.K ca W f)) (hb : PA X es (tCls ca cs))
    (hs : starEach [a, .Tuple es x1 tpos] X.env = (false, eval a X.env) :: starEach [.Tuple es x1 tpos] X.env := by rfl) (hs2 : starEach [.Tuple es x1 tpos] X.env = (false, eval (.Tuple es x1 tpos) X.env) :: starEach [] X.env := by rfl) (hpl : (backTo pos (starEach [.Tuple es x1 tpos] X.env)).any (·.1) = false := by rfl) :
    PE X (.Call (.Name "isinstance" p) [a, .Tuple es x1 tpos] [] pos) (tE X.K ca W (eIsi anc cs f)) :=
  PE.imp (pe_callB (call_isN C hc) hg hm (by decide +kernel) (pa_cons ha (pa_cons (pe_tup hb) pa_nil hs2) hs) (by decide) (by decide) hs hpl) fun σ H Q ⟨w, env, e, s, m, h⟩ => by
    refine tE_bind (Qb := fun w => QV X.K ca w Q) e s m h (fun e q => QV.later e q) fun w1 d v s1 m1 r e1 h1 => ?_
    cases q : kdOf anc d w1.S with
    | none => rw [q] at h1; exact h1.elim
    | some k =>
      rw [q] at h1
      refine ⟨by rw [List.length_map]; exact hl, fun tp htp => ?_⟩
      have y := Ext.alloc (w := w1) (o := .tup (cs.map (clV ca))) htp
      refine ⟨⟨upd w1.H tp (.tup (cs.map (clV ca))), w1.ρ, w1.S⟩, v, d, k, tp, rfl, s1.alloc htp, rfl, upd_same, r.mono y s1, q, ?_⟩
      exact (show QV X.K ca w1 Q (.bl (cs.any (isK anc k))) w1.S from h1) ⟨upd w1.H tp (.tup (cs.map (clV ca))), w1.ρ, w1.S⟩ rfl y (s1.alloc htp) (.bl _) (.bl _)

/-! ### e.value -/
theorem e_val (C : ClsOk X.K ca anc) (ha : PE X a (tE X.K ca W f)) (hb : attributeBase a "value" X.env (eval a X.env) = eval a X.env := by rfl) : PE X (.Attribute a "value" pos) (tE X.K ca W (eVal anc f)) := by
  refine ⟨fun pins s σ H Q I h => ?_⟩
  have h' : tE X.K ca W f σ H fun x H1 => ∃ w d, w.H = H1 ∧ SOk X.K ca w ∧ Rep X.K ca w x d ∧ ∃ c y, d = .exc c y ∧ c < anc.length ∧ QV X.K ca w Q y w.S := by
    obtain ⟨w, env, e, s, m, h⟩ := h
    refine tE_bind (Qb := fun w => QV X.K ca w Q) e s m h (fun e q => QV.later e q) fun w1 d v s1 m1 r e1 h1 => ?_
    refine ⟨w1, d, rfl, s1, r, ?_⟩
    have h1 : Sat (exVal anc d w1.S) (QV X.K ca w1 Q) (QE X.K ca w1 W σ) := h1
    unfold exVal at h1
    cases d with
    | exc c y =>
      dsimp only at h1
      by_cases hc : c < anc.length
      · rw [if_pos hc] at h1
        exact ⟨c, y, rfl, hc, h1⟩
      · rw [if_neg hc] at h1; exact h1.elim
    | _ => exact h1.elim
  refine attr_of hb (thn (ha.run pins s σ H _ I h') fun u s1 hh => ?_)
  obtain ⟨x, H1, I1, rx, w, d, rfl, sk, r, c, y, rfl, hc, q⟩ := hh
  cases r with
  | @exc A D c v y h1 h2 n1 n2 rv =>
    obtain rfl : u = Value.ref A := rx
    obtain ⟨oe, od, J, u, hu, ru⟩ := exc_inst I1 h1 h2
    have T := C.xf c hc
    exact HandSPX.exc_get I1.kIn J T.ga T.gg T.exC (PySem.W.findObj_own T.hdC (C.noval c hc) rfl hu) (handed_of ru) ⟨v, w.H, I1.tok _, ru, sat_here sk q rv⟩
end
end Py

set_option maxHeartbeats 4000000
/-! PyL: membership, three stores at once, what calls need in a block. -/
namespace Py
open PySem PySem.Spec PyProof.Rows L2

theorem tk0 {X : Cx} : Takes X W0 := fun _ _ x => by
  obtain ⟨_, _, _, _, _, _, _, _, _, _, _, _, _, _, _, _, z⟩ := x
  exact z.elim
/-- no def: the promise that nothing keeps -/
theorem fn_none {P : Program} {w : World} {K : PySem.W.Frag} {ca : Nat → Addr} {mg : Str → Option Value} {base : Heap} {k i n : Nat} {f : Addr} {fd : FuncData} {ps : List Str} {Γ : Calls} (h : ∀ args S, Γ i args S = .bad) : FnOk P w K mg base (L2.CX P w) k f fd ps (spF K ca Γ i n) where
  len := fun vs H Q E h0 => by
    obtain ⟨w, ds, _, _, _, _, q⟩ := h0
    rw [h] at q
    exact q.elim
  run := fun A outer s H args us vs Q E hr he hb r h0 => by
    obtain ⟨w, ds, _, _, _, _, q⟩ := h0
    rw [h] at q
    exact q.elim

/-! ### a, b, c = x, y, z -/
def sPar3 (i j l : Nat) (f g h : Den) : DenS := fun e S => match f e S with
  | .ok d S1 => (match g e S1 with
    | .ok d2 S2 => (match h e S2 with | .ok d3 S3 => .next (((e.set i (some d)).set j (some d2)).set l (some d3)) S3 | .err c v S3 => .err c v e S3 | .bad => .bad)
    | .err c v S2 => .err c v e S2 | .bad => .bad)
  | .err c v S1 => .err c v e S1
  | .bad => .bad

/-! ### {} -/
theorem e_dct0 {X : Cx} {ca : Nat → Addr} {W : WX} {pos : Pos} : PE X (.Dict [] [] pos) (tE X.K ca W (eC (.dct [] []))) := PE.imp pe_dnewK fun σ H Q ⟨w, env, e, s, m, h⟩ => by
  subst e
  intro p hp
  have x := Ext.alloc (w := w) (o := .dK []) hp
  exact h ⟨upd w.H p (.dK []), w.ρ, w.S⟩ rfl x (s.alloc hp) (.ref p) (.dct (us := []) upd_same (fun m => s.notM0 hp m) rfl .nil)

/-! ### in -/
def flatD : D → Bool
  | .non => true | .bl _ => true | .int _ => true | .str _ => true | _ => false
def oIn (neg : Bool) : Op2 := fun a b S => match b with
  | .tup ys => if flatD a && ys.all flatD then .ok (.bl (neg != ys.any fun y => eqB y a)) S else .bad
  | b => (match look a S, look b S with
    | some x, some (.lst ys) => if fit x && fit (.lst ys) then .ok (.bl (neg != ys.any fun y => eqB y x)) S else .bad
    | _, _ => .bad)
theorem m_in {neg : Bool} : Mute2 (oIn neg) := by
  intro a b S c v S' h; revert h; unfold oIn
  split
  · split <;> simp
  · split
    · split <;> simp
    · simp
section
variable {X : Cx} {ca : Nat → Addr} {W : WX} {pos pos' p apos cpos tpos : Pos} {f g h o i : Den} {gs hs : Dens} {a b e : Expr} {es : List Expr} {w : Wd}
theorem flat_rep {v : V} {d : D} (r : Rep X.K ca w v d) (h : flatD d = true) : flatV v = true := by
  cases r <;> first | rfl | cases h
theorem eq_flat {v u : V} {d e : D} (r : Rep X.K ca w v d) (s : Rep X.K ca w u e) (h : flatD d = true) (k : flatD e = true) : eqV v u = eqB d e := by
  cases r <;> first
    | (cases h; done)
    | (cases s <;> first | (cases k; done) | (simp [eqV, eqB, Py.b2i]; done))
theorem any_flat {u : V} {e : D} (s : Rep X.K ca w u e) (k : flatD e = true) : ∀ {vs : List V} {ds : List D}, RepL X.K ca w vs ds → ds.all flatD = true → (vs.any fun y => eqV y u) = ds.any fun y => eqB y e
  | _, _, .nil, _ => rfl
  | _, _, .cons r t, h => by
    rw [List.all_cons, Bool.and_eq_true] at h
    rw [List.any_cons, List.any_cons, eq_flat r s h.1 k, any_flat s k t h.2]
theorem all_flat : ∀ {vs : List V} {ds : List D}, RepL X.K ca w vs ds → ds.all flatD = true → vs.all flatV = true
  | _, _, .nil, _ => rfl
  | _, _, .cons r t, h => by
    rw [List.all_cons, Bool.and_eq_true] at h
    rw [List.all_cons, flat_rep r h.1, all_flat t h.2]
    rfl
theorem any_toP {x : D} (hx : pureB x = true) : ∀ {ys : List D}, pureL ys = true → ((toPs ys).any fun z => PyData.eqv z (toP x)) = ys.any fun y => eqB y x
  | [], _ => rfl
  | y :: ys, h => by
    unfold pureL at h
    rw [Bool.and_eq_true] at h
    unfold toPs
    rw [List.any_cons, List.any_cons, eqv_toP y x h.1 hx, any_toP hx h.2]
theorem fit_pure {d : D} (h : fit d = true) : pureB d = true := by
  unfold fit at h
  rw [Bool.and_eq_true] at h
  exact h.1
theorem look_lst {v : V} {d : D} {ys : List D} {w : Wd} (s : SOk X.K ca w) (r : Rep X.K ca w v d) (e : look d w.S = some (.lst ys)) (h : fit (.lst ys) = true) : Dp X.K w.H v (.list (toPs ys)) := by
  have z := look_dp s r e h
  unfold toP at z
  exact z
theorem r_in (hu : X.A.units + 65 < cLine) : OpR X (compareOp .In) (rO2 X.K ca (oIn false)) := opImp (opOr op_in_seq (op_inD hu)) fun x y H Q h => by
  obtain ⟨w, dx, dy, e, sk, r1, r2, q⟩ := h
  subst e
  have other : Sat (match look dx w.S, look dy w.S with
      | some x, some (.lst ys) => if fit x && fit (.lst ys) then Py.R.ok (.bl (false != ys.any fun y => eqB y x)) w.S else .bad
      | _, _ => .bad) (QV X.K ca w Q) (fun _ _ _ => False) → rInD X.K x y w.H Q := fun q => by
    split at q
    · rename_i d ys q1 q2
      by_cases hf : (fit d && fit (.lst ys)) = true
      · rw [if_pos hf] at q
        rw [Bool.and_eq_true] at hf
        refine ⟨toP d, toPs ys, look_dp sk r1 q1 hf.1, look_lst sk r2 q2 hf.2, shaped_fit hf.1, by have z := shaped_fit hf.2; unfold toP at z; exact z, ?_⟩
        rw [any_toP (fit_pure hf.1) (by have z := fit_pure hf.2; unfold pureB at z; exact z)]
        have z := sat_here sk q (.bl _)
        simpa using z
      · rw [if_neg hf] at q; exact q.elim
    · exact q.elim
  unfold oIn at q
  cases r2 with
  | @tup A vs ys hq ra =>
    dsimp only at q
    by_cases hf : (flatD dx && ys.all flatD) = true
    · rw [if_pos hf] at q
      rw [Bool.and_eq_true] at hf
      refine .inl ⟨A, vs, rfl, .inr hq, flat_rep r1 hf.1, all_flat ra hf.2, ?_⟩
      have z := sat_here sk q (.bl _)
      rw [if_neg (by simp)]
      unfold inV
      rw [any_flat r1 hf.1 ra hf.2]
      simpa using z
    · rw [if_neg hf] at q; exact q.elim
  | _ => exact .inr (other q)
theorem r_nin (hu : X.A.units + 65 < cLine) : OpR X (compareOp .NotIn) (rO2 X.K ca (oIn true)) := opImp (opOr op_notIn_seq (op_notInD hu)) fun x y H Q h => by
  obtain ⟨w, dx, dy, e, sk, r1, r2, q⟩ := h
  subst e
  have other : Sat (match look dx w.S, look dy w.S with
      | some x, some (.lst ys) => if fit x && fit (.lst ys) then Py.R.ok (.bl (true != ys.any fun y => eqB y x)) w.S else .bad
      | _, _ => .bad) (QV X.K ca w Q) (fun _ _ _ => False) → rNotInD X.K x y w.H Q := fun q => by
    split at q
    · rename_i d ys q1 q2
      by_cases hf : (fit d && fit (.lst ys)) = true
      · rw [if_pos hf] at q
        rw [Bool.and_eq_true] at hf
        refine ⟨toP d, toPs ys, look_dp sk r1 q1 hf.1, look_lst sk r2 q2 hf.2, shaped_fit hf.1, by have z := shaped_fit hf.2; unfold toP at z; exact z, ?_⟩
        rw [any_toP (fit_pure hf.1) (by have z := fit_pure hf.2; unfold pureB at z; exact z)]
        have z := sat_here sk q (.bl _)
        simpa using z
      · rw [if_neg hf] at q; exact q.elim
    · exact q.elim
  unfold oIn at q
  cases r2 with
  | @tup A vs ys hq ra =>
    dsimp only at q
    by_cases hf : (flatD dx && ys.all flatD) = true
    · rw [if_pos hf] at q
      rw [Bool.and_eq_true] at hf
      refine .inl ⟨A, vs, rfl, .inr hq, flat_rep r1 hf.1, all_flat ra hf.2, ?_⟩
      have z := sat_here sk q (.bl _)
      rw [if_pos rfl]
      unfold inV
      rw [any_flat r1 hf.1 ra hf.2]
      simpa using z
    · rw [if_neg hf] at q; exact q.elim
  | _ => exact .inr (other q)
end
section
variable {X : Cx} {ca : Nat → Addr} {W : WX} {pos : Pos} {f g h : Den} {a b c : Expr}
theorem s_par3 {i j l : Nat} {x y z : Str} {px py pz pt : Pos} {kt k2 pt2} (hc : X.calm = true) (hN : X.N.Nodup) (hi : X.N[i]? = some x) (hj : X.N[j]? = some y) (hl : X.N[l]? = some z) (hij : i ≠ j) (hil : i ≠ l) (hjl : j ≠ l)
    (hx : X.env.scope.names.lookup x = some .local) (hy : X.env.scope.names.lookup y = some .local) (hz : X.env.scope.names.lookup z = some .local) (ha : PE X a (tE X.K ca W f)) (hb : PE X b (tE X.K ca W g)) (hcc : PE X c (tE X.K ca W h))
    (hw : swappedStores [.Tuple [.Name x px, .Name y py, .Name z pz] kt pt] (.Tuple [a, b, c] k2 pt2) X.env = pure (some [x, y, z])) (hst : starEach [a, b, c] X.env = (false, eval a X.env) :: starEach [b, c] X.env := by rfl) (hst2 : starEach [b, c] X.env = (false, eval b X.env) :: starEach [c] X.env := by rfl) (hst3 : starEach [c] X.env = (false, eval c X.env) :: starEach [] X.env := by rfl)
    (hs : swapsWithSole [.Tuple [.Name x px, .Name y py, .Name z pz] kt pt] (.Tuple [a, b, c] k2 pt2) pos.line X.env = pure false := by rfl) :
    PS X (.Assign [.Tuple [.Name x px, .Name y py, .Name z pz] kt pt] (.Tuple [a, b, c] k2 pt2) pos) (tS X.K ca W (sPar3 i j l f g h)) :=
  PS.imp (ps_par3 hc hN hi hj hl hij hil hjl hx hy hz (pa_cons ha (pa_cons hb (pa_cons hcc pa_nil hst3) hst2) hst) hw hs) fun U σ H ⟨w, env, e, s, m, hh⟩ =>
    tE_then (k := fun d S1 => match g env S1 with
      | .ok d2 S2 => (match h env S2 with | .ok d3 S3 => RS.next (((env.set i (some d)).set j (some d2)).set l (some d3)) S3 | .err c v S3 => RS.err c v env S3 | .bad => .bad)
      | .err c v S2 => RS.err c v env S2 | .bad => .bad) e s m hh fun w1 d v s1 m1 r x q =>
      tE_then (f := g) (k := fun d2 S2 => match h env S2 with | .ok d3 S3 => RS.next (((env.set i (some d)).set j (some d2)).set l (some d3)) S3 | .err c v S3 => RS.err c v env S3 | .bad => .bad) rfl s1 m1 q fun w2 d2 v2 s2 m2 r2 x2 q2 =>
        tE_then (f := h) (k := fun d3 S3 => RS.next (((env.set i (some d)).set j (some d2)).set l (some d3)) S3) rfl s2 m2 q2 fun w3 d3 v3 s3 m3 r3 x3 q3 =>
          ⟨v, v2, v3, rfl, Aft.here (w' := w3) q3 (.refl w3) s3 _ (((m3.set i ((r.mono x2 s1).mono x3 s2)).set j (r2.mono x3 s2)).set l r3)⟩
end
end Py

set_option maxHeartbeats 4000000
/-! PyM: what the head needs. -/
namespace Py
open PySem PySem.Spec PyProof.Rows L2

def exM (anc : Anc) (j : Nat) : Nat → Option Bool := fun k => if k < anc.length then some ((anc.getD k []).contains j) else none
theorem exM_ok {K : PySem.W.Frag} {ca : Nat → Addr} {anc : Anc} {j : Nat} (C : ClsOk K ca anc) (hj : j < anc.length) : ∀ k b, exM anc j k = some b → PySem.W.exmOne K (.ref (ca k)) (.ref (ca j)) = some b := fun k b h => by
  unfold exM at h
  by_cases hk : k < anc.length
  · rw [if_pos hk] at h
    rw [C.ex k j hk hj]
    exact h
  · rw [if_neg hk] at h; cases h
/-- the first def of a class -/
def clsM (st : Stmt) : Stmt := match st with
  | .ClassDef _ _ _ body .. => (body.find? fun s => match s with | .FunctionDef .. => true | _ => false).getD st
  | s => s

/-! ### the head's facts -/
abbrev AlX : Type := He.AlD × Bool
def obsX (fa : List He.Fa) (fn : List He.DefD) (fx : PySem.W.Frag → Bool) (K : PySem.W.Frag) : AlX := (He.obsD fa fn K, fx K)
def valX (fn : List He.DefD) : AlX := (He.valD fn, true)
def SaysX (fa : List He.Fa) (fn : List He.DefD) (fx : PySem.W.Frag → Bool) (K : PySem.W.Frag) : Prop := obsX fa fn fx K = valX fn
def obsXG (n : Nat) (fa : List He.Fa) (fn : List He.DefD) (fx : PySem.W.Frag → Bool) (g : Addr → Option Obj) : AlX := obsX fa fn fx (He.frG g (He.asD g n))
def hookX (n : Nat) (fa : List He.Fa) (fn : List He.DefD) (fx : PySem.W.Frag → Bool) : PySem.W.Hook where
  α := AlX
  obs := fun s => obsXG n fa fn fx s.heap.get?
  val := fun _ => valX fn
  says := fun _ h => ∃ K : PySem.W.Frag, K.In h ∧ SaysX fa fn fx K
  of := fun _ _ e => ⟨_, He.frG_in, e⟩
  keeps := fun _ _ _ ⟨K, hK, c⟩ k => ⟨K, PySem.W.Frag.In.keeps hK k, c⟩
theorem obsXG_eq {n : Nat} {fa : List He.Fa} {fn : List He.DefD} {fx : PySem.W.Frag → Bool} {g : Addr → Option Obj} {s : Shared} (h : ∀ a, g a = s.heap.get? a) : obsXG n fa fn fx g = (hookX n fa fn fx).obs s := by
  have e : g = s.heap.get? := funext h
  rw [e] <;> rfl
theorem SaysX.d {fa : List He.Fa} {fn : List He.DefD} {fx : PySem.W.Frag → Bool} {K : PySem.W.Frag} (c : SaysX fa fn fx K) : He.SaysD fa fn K := congrArg (fun z : AlX => z.1) c
theorem SaysX.x {fa : List He.Fa} {fn : List He.DefD} {fx : PySem.W.Frag → Bool} {K : PySem.W.Frag} (c : SaysX fa fn fx K) : fx K = true := congrArg (fun z : AlX => z.2) c

/-! ### a law's def at the end -/
theorem fn_cx0 {P : Program} {w : World} {K : PySem.W.Frag} {mg : Str → Option Value} {base : Heap} {k : Nat} {f : Addr} {fd : FuncData} {ps : List Str} {sp : Sp} (F : FnOk P w K mg base (L2.CX P w) k f fd ps sp) :
    FnOk P w K mg base CX0 k f fd ps (fun vs H Q _ => sp vs H Q fun _ _ _ => False) where
  len := fun vs H Q E h => F.len vs H Q _ h
  run := fun A outer s H args us vs Q E hr he hb r h => codeAny_mono (F.run A outer s H args us vs Q (fun _ _ _ => False) hr he hb r h) fun r s' hq => by
    cases r with
    | error e =>
      obtain ⟨_, _, _, _, _, _, _, _, _, _, _, _, z⟩ := hq
      exact z.elim
    | ok fl => cases fl <;> exact hq
theorem start_ok {K : PySem.W.Frag} {ca : Nat → Addr} {H : Hp} {a : Addr} {ns : List Int} (hO : Only H) (hS : SqL K H a (ns.map V.int)) : SOk K ca ⟨H, fun _ => 0, []⟩ ∧ Rep K ca ⟨H, fun _ => 0, []⟩ (.ref a) (.fls ns) := by
  refine ⟨⟨fun n xs q => (by simp at q), fun n m xs ys q => (by simp at q)⟩, .fls ?_⟩
  rcases hS with (h | ⟨o, h⟩) | h
  · rcases hO a with z | ⟨o, xs, z⟩
    · rw [z] at h; cases h
    · rw [z] at h; cases h
  · exact .inl ⟨o, h⟩
  · exact .inr h
theorem law_sp {K : PySem.W.Frag} {ca : Nat → Addr} {Γ : Calls} {i : Nat} {H : Hp} {a : Addr} {ns : List Int} {S' : Store} (hO : Only H) (hS : SqL K H a (ns.map V.int)) (h : Γ i [.fls ns] [] = .ok (.bl true) S') :
    spF K ca Γ i 1 [.ref a] H (fun v _ => v = .bl true) (fun _ _ _ => False) := by
  obtain ⟨s, r⟩ := start_ok (ca := ca) hO hS
  refine ⟨_, [.fls ns], rfl, rfl, s, .cons r .nil, ?_⟩
  rw [h]
  intro w1 hS x1 s1 v rv
  cases rv
  rfl
/-- the constructor's place, a class's facts -/
def excB (K : PySem.W.Frag) (ca : Nat → Addr) (anc : Anc) (fI : Addr) : Bool := clsB K ca anc && ((List.range anc.length).all (fun c => decide (PySem.W.findIn K (.ref (ca c)) "__init__" = some (some (.ref fI)))) && decide (PySem.W.typeIn K (.ref fI) = some (.type "function")))
theorem excB_ok {K : PySem.W.Frag} {ca : Nat → Addr} {anc : Anc} {fI : Addr} (h : excB K ca anc fI = true) : ClsOk K ca anc ∧ (∀ c, c < anc.length → ExcT K (ca c) fI) ∧ PySem.W.typeIn K (.ref fI) = some (.type "function") := by
  unfold excB at h
  rw [Bool.and_eq_true, Bool.and_eq_true] at h
  have C := clsB_ok h.1
  exact ⟨C, fun c hc => ⟨C.oex c hc, of_decide_eq_true (List.all_eq_true.mp h.2.1 c (List.mem_range.mpr hc)), C.noval c hc⟩, of_decide_eq_true h.2.2⟩
def bltB (K : PySem.W.Frag) (x : Str) (id : String) : Bool := decide (PySem.W.nsIn K mainGlobals x = some (some (.builtin id)))
theorem bltB_ok {K : PySem.W.Frag} {h : Heap} {mg : Str → Option Value} {x : Str} {id : String} (X : K.In h) (G : h.Ns mainGlobals mg) (c : bltB K x id = true) : mg x = some (.builtin id) := PySem.W.mg_of X G (of_decide_eq_true c)

/-! ### constants of the module -/
def GloD (K : PySem.W.Frag) (ca : Nat → Addr) (mg : Str → Option Value) (x : Str) (d : D) : Prop := ∃ (v : V) (u : Value), mg x = some u ∧ RelV v u ∧ ∀ w : Wd, Rep K ca w v d
theorem e_gl {X : Cx} {ca : Nat → Addr} {W : WX} {pos : Pos} {x : Str} {d : D} (h : GloD X.K ca X.mg x d) (hg : Gl X x) (hd : (x == ("__debug__" : Str)) = false := by decide) : PE X (.Name x pos) (tE X.K ca W (eC d)) := by
  obtain ⟨v, u, hm, r, rd⟩ := h
  exact e_glob hg hm r rd hd
section
variable {K : PySem.W.Frag} {ca : Nat → Addr} {h : Heap} {mg : Str → Option Value} {x : Str}
theorem glo_int (X : K.In h) (G : h.Ns mainGlobals mg) {i : Int} (c : (He.Fa.int x i).ok K = true) : GloD K ca mg x (.int i) := by
  obtain ⟨t, e⟩ := He.int_ok X G c
  exact ⟨.int i, _, e, ⟨t, rfl⟩, fun w => .int i⟩
theorem glo_str (X : K.In h) (G : h.Ns mainGlobals mg) {z : Str} (c : (He.Fa.str x z).ok K = true) : GloD K ca mg x (.str z) := by
  obtain ⟨t, e⟩ := He.str_ok X G c
  exact ⟨.str z, _, e, ⟨t, rfl⟩, fun w => .str z⟩
theorem glo_tup (X : K.In h) (G : h.Ns mainGlobals mg) {vs : List He.Dv} {ds : List D} (c : ((He.Fa.glo x).ok K && He.tupB K x vs) = true) (r : ∀ w : Wd, RepL K ca w (vs.map (He.Dv.v K)) ds) : GloD K ca mg x (.tup ds) := by
  rw [Bool.and_eq_true] at c
  exact ⟨.ref (He.ga K x), _, He.glo_ok X G c.1, rfl, fun w => .tup (He.tupB_ok c.2 _) (r w)⟩
end
end Py

set_option maxHeartbeats 4000000
/-! PyN: reckoning with what is computed. -/
namespace Py
open PySem (Str sizeLine)
section
variable {d d1 d2 : D} {e : Env} {S S1 : Store} {f g h : Den} {gs hs : Dens} {i j : Nat} {t u : DenT} {F G : DenS} {Γ : Calls}
@[simp] theorem eC_ap : eC d e S = .ok d S := rfl
theorem eVar_ap (h : e[i]? = some (some d)) : eVar i e S = .ok d S := by unfold eVar; rw [h]
@[simp] theorem eVar_c0 {o : Env} : eVar 0 (some d :: o) S = .ok d S := rfl
@[simp] theorem eVar_c {x : Option D} {o : Env} {i : Nat} : eVar (i + 1) (x :: o) S = eVar i o S := rfl
@[simp] theorem dNil_ap : dNil e S = .ok [] S := rfl
@[simp] theorem dCons_ap : dCons f gs e S = (f e S).bind fun a S1 => (gs e S1).bind fun as S2 => .ok (a :: as) S2 := rfl
@[simp] theorem eTup_ap : eTup gs e S = (gs e S).bind fun as S1 => .ok (.tup as) S1 := rfl
@[simp] theorem eLst_ap : eLst gs e S = (gs e S).bind fun as S1 => .ok (.lst as) S1 := rfl
@[simp] theorem eNew_ap : eNew gs e S = (gs e S).bind fun as S1 => .ok (.ref S1.length) (S1 ++ [.lst as]) := rfl
@[simp] theorem eBin_ap {o : Op2} : eBin o f g e S = (f e S).bind fun a S1 => (g e S1).bind fun b S2 => o a b S2 := rfl
@[simp] theorem eUn_ap {o : Op1} : eUn o f e S = (f e S).bind fun a S1 => o a S1 := rfl
@[simp] theorem eFn_ap {o : OpN} : eFn o gs e S = (gs e S).bind fun as S1 => o as S1 := rfl
@[simp] theorem dFn_ap {o : OpF} : dFn o gs e S = (gs e S).bind fun as S1 => o as S1 := rfl
@[simp] theorem eCall_ap : eCall Γ i gs e S = (gs e S).bind fun as S1 => Γ i as S1 := rfl
@[simp] theorem eCallP_ap {js : List Nat} : eCallP Γ i js gs hs e S = (gs e S).bind fun as S1 => (hs e S1).bind fun bs S2 => Γ i (perm js (as ++ bs)) S2 := rfl
@[simp] theorem eIf_ap : eIf t f g e S = (t e S).bind fun b S1 => if b then f e S1 else g e S1 := rfl
@[simp] theorem eIsi_ap {anc : Anc} {cs : List Cl} : eIsi anc cs f e S = (f e S).bind fun d S1 => optR (kdOf anc d S1) fun k => .ok (.bl (cs.any (isK anc k))) S1 := rfl
@[simp] theorem eVal_ap {anc : Anc} : eVal anc f e S = (f e S).bind fun d S1 => exVal anc d S1 := rfl
@[simp] theorem eSetI_ap {o i : Den} : eSetI f o i e S = (f e S).bind fun v S1 => (o e S1).bind fun d S2 => (i e S2).bind fun k S3 => chg (kSet k v) d S3 := rfl
@[simp] theorem eApp_ap {o : Den} : eApp o f e S = (o e S).bind fun d S1 => (f e S1).bind fun v S2 => chg (kApp v) d S2 := rfl
@[simp] theorem ePop_ap {o : Den} : ePop o e S = (o e S).bind fun d S1 => chg kPop d S1 := rfl
@[simp] theorem eIns_ap {o i : Den} : eIns o i f e S = (o e S).bind fun d S1 => (i e S1).bind fun k S2 => (f e S2).bind fun v S3 => chg (kIns k v) d S3 := rfl
@[simp] theorem eAnd_ap : eAnd f g e S = (f e S).bind fun a S1 => match a with | .bl true => g e S1 | .bl false => .ok (.bl false) S1 | _ => .bad := rfl
@[simp] theorem eOr_ap : eOr f g e S = (f e S).bind fun a S1 => match a with | .bl true => .ok (.bl true) S1 | .bl false => g e S1 | _ => .bad := rfl
@[simp] theorem eNot_ap : eNot f e S = (f e S).bind fun a S1 => match a with | .bl b => .ok (.bl (!b)) S1 | _ => .bad := rfl
@[simp] theorem tVal_ap : tVal f e S = (f e S).bind fun a S1 => match a with | .bl b => .ok b S1 | _ => .bad := rfl
@[simp] theorem tNot_ap : tNot t e S = (t e S).bind fun b S1 => .ok (!b) S1 := rfl
@[simp] theorem tAnd_ap : tAnd t u e S = (t e S).bind fun b S1 => if b then u e S1 else .ok false S1 := rfl
@[simp] theorem tOr_ap : tOr t u e S = (t e S).bind fun b S1 => if b then .ok true S1 else u e S1 := rfl
@[simp] theorem sSeq_ap : sSeq F G e S = (match F e S with | .next e1 S1 => G e1 S1 | r => r) := rfl
@[simp] theorem sPass_ap : sPass e S = .next e S := rfl
@[simp] theorem sExpr_ap : sExpr f e S = (match f e S with | .ok _ S1 => .next e S1 | .err c v S1 => .err c v e S1 | .bad => .bad) := rfl
@[simp] theorem sSet_ap : sSet i f e S = (match f e S with | .ok d S1 => .next (e.set i (some d)) S1 | .err c v S1 => .err c v e S1 | .bad => .bad) := rfl
@[simp] theorem sRet_ap : sRet f e S = (match f e S with | .ok d S1 => .ret d S1 | .err c v S1 => .err c v e S1 | .bad => .bad) := rfl
@[simp] theorem sRetN_ap : sRetN e S = .ret .non S := rfl
@[simp] theorem sIf_ap : sIf t F G e S = (match t e S with | .ok c S1 => if c then F e S1 else G e S1 | .err c v S1 => .err c v e S1 | .bad => .bad) := rfl
@[simp] theorem sBrk_ap : sBrk e S = .brk e S := rfl
@[simp] theorem sRaise_ap {c : Nat} : sRaise c f e S = (match f e S with | .ok d S1 => .err c d e S1 | .err c v S1 => .err c v e S1 | .bad => .bad) := rfl
@[simp] theorem sPar_ap : sPar i j f g e S = (match f e S with
  | .ok d S1 => (match g e S1 with | .ok d2 S2 => .next ((e.set i (some d)).set j (some d2)) S2 | .err c v S2 => .err c v e S2 | .bad => .bad)
  | .err c v S1 => .err c v e S1
  | .bad => .bad) := rfl
@[simp] theorem sAsg_ap {k : Tgt} : sAsg k f e S = (match f e S with | .ok d S1 => (match k d e S1 with | some e1 => .next e1 S1 | none => .bad) | .err c v S1 => .err c v e S1 | .bad => .bad) := rfl
@[simp] theorem gNm_ap : gNm i d e S = some (e.set i (some d)) := rfl
@[simp] theorem gTup_ap {ks : List Tgt} {xs : List D} : gTup ks (.tup xs) e S = gAll ks xs e S := rfl
@[simp] theorem gAll_nil : gAll [] [] e S = some e := rfl
@[simp] theorem gAll_cons {k : Tgt} {ks : List Tgt} {x : D} {xs : List D} : gAll (k :: ks) (x :: xs) e S = (match k x e S with | some e1 => gAll ks xs e1 S | none => none) := rfl
@[simp] theorem optR_some {α β : Type} {a : α} {k : α → R β} : optR (some a) k = k a := rfl
@[simp] theorem optR_none {α β : Type} {k : α → R β} : optR none k = .bad := rfl
@[simp] theorem rcv_ap : rcv f e S = (f e S).bind fun d S1 => match d with | .ref n => (match S1[n]? with | some (.lst _) => .ok d S1 | _ => .bad) | _ => .bad := rfl
/-! operations of ints -/
variable {a b : Int}
@[simp] theorem oAdd_i : oAdd (.int a) (.int b) S = .ok (.int (a + b)) S := rfl
@[simp] theorem oCat_i : oCat (.int a) (.int b) S = .ok (.int (a + b)) S := rfl
@[simp] theorem oSub_i : oSub (.int a) (.int b) S = .ok (.int (a - b)) S := rfl
@[simp] theorem oNeg_i : oNeg (.int a) S = .ok (.int (-a)) S := rfl
@[simp] theorem oLt_i : oLt (.int a) (.int b) S = .ok (.bl (decide (a < b))) S := rfl
@[simp] theorem oLe_i : oLe (.int a) (.int b) S = .ok (.bl (decide (a ≤ b))) S := rfl
@[simp] theorem oGt_i : oGt (.int a) (.int b) S = .ok (.bl (decide (b < a))) S := rfl
@[simp] theorem oGe_i : oGe (.int a) (.int b) S = .ok (.bl (decide (b ≤ a))) S := rfl
@[simp] theorem oInt_i : oInt [.int a] S = .ok (.int a) S := rfl
@[simp] theorem oAbs_i : oAbs [.int a] S = .ok (.int a.natAbs) S := rfl
@[simp] theorem oMax2_i : oMax2 [.int a, .int b] S = .ok (.int (max a b)) S := rfl
@[simp] theorem oMin2_i : oMin2 [.int a, .int b] S = .ok (.int (min a b)) S := rfl
@[simp] theorem oGcd_i : oGcd [.int a, .int b] S = .ok (.int (Nat.gcd a.natAbs b.natAbs : Nat)) S := rfl
@[simp] theorem oIsN_ap : oIsN d S = .ok (.bl (isNon d)) S := rfl
@[simp] theorem oNotN_ap : oNotN d S = .ok (.bl (!isNon d)) S := rfl
theorem oMod_i (h : b ≠ 0) : oMod (.int a) (.int b) S = .ok (.int (a.fmod b)) S := if_pos h
theorem oFdiv_i (h : divOk b = true) : oFdiv (.int a) (.int b) S = .ok (.int (a.fdiv b)) S := if_pos h
theorem oRep_i (h : mulOk a b = true) : oRep (.int a) (.int b) S = .ok (.int (a * b)) S := if_pos h
theorem oPow_i (h : powOk a b = true) : oPow (.int a) (.int b) S = .ok (.int (a ^ b.toNat)) S := if_pos h
@[simp] theorem look_i : look (.int a) S = some (.int a) := rfl
@[simp] theorem look_b {c : Bool} : look (.bl c) S = some (.bl c) := rfl
@[simp] theorem fit_i : fit (.int a) = true := rfl
@[simp] theorem fit_b {c : Bool} : fit (.bl c) = true := rfl
theorem oEq_fit {d1 d2 : D} (h1 : fit d1 = true) (h2 : fit d2 = true) : oEq d1 d2 S = .ok (.bl (eqB d1 d2)) S := by
  have p1 : look d1 S = some d1 := look_no (noRef_pure (fit_pure h1))
  have p2 : look d2 S = some d2 := look_no (noRef_pure (fit_pure h2))
  unfold oEq
  rw [p1, p2]
  simp only [h1, h2, Bool.and_self, if_true]
theorem oNe_fit {d1 d2 : D} (h1 : fit d1 = true) (h2 : fit d2 = true) : oNe d1 d2 S = .ok (.bl (!eqB d1 d2)) S := by
  have p1 : look d1 S = some d1 := look_no (noRef_pure (fit_pure h1))
  have p2 : look d2 S = some d2 := look_no (noRef_pure (fit_pure h2))
  unfold oNe
  rw [p1, p2]
  simp only [h1, h2, Bool.and_self, if_true]
@[simp] theorem oEq_i : oEq (.int a) (.int b) S = .ok (.bl (a == b)) S := oEq_fit rfl rfl
@[simp] theorem oNe_i : oNe (.int a) (.int b) S = .ok (.bl (!(a == b))) S := oNe_fit rfl rfl
@[simp] theorem oNe_b {c1 c2 : Bool} : oNe (.bl c1) (.bl c2) S = .ok (.bl (!(c1 == c2))) S := oNe_fit rfl rfl
@[simp] theorem oEq_b {c1 c2 : Bool} : oEq (.bl c1) (.bl c2) S = .ok (.bl (c1 == c2)) S := oEq_fit rfl rfl
theorem bits_lt {i : Int} {k : Nat} (h : i.natAbs < 2 ^ k) : bits i ≤ k + 1 := by
  unfold bits
  by_cases h0 : i.natAbs = 0
  · rw [h0]; simp
  · have := (Nat.log2_lt h0).mpr h
    omega
theorem mulOk_small {a b : Int} (ha : a.natAbs < 2 ^ 1000) (hb : b.natAbs < 2 ^ 1000) : mulOk a b = true := by
  unfold mulOk
  have h1 := bits_lt ha
  have h2 := bits_lt hb
  exact decide_eq_true (by omega)
theorem divOk_small {b : Int} (h0 : b ≠ 0) (hb : b.natAbs < 2 ^ 1000) : divOk b = true := by
  unfold divOk
  rw [Bool.and_eq_true]
  have h1 := bits_lt hb
  unfold bits at h1
  exact ⟨decide_eq_true h0, decide_eq_true (by omega)⟩
theorem powOk_small {a b : Int} (h0 : 0 ≤ b) (h1 : b ≤ 1000000) (ha : a.natAbs < 2 ^ 64) : powOk a b = true := by
  unfold powOk
  rw [Bool.and_eq_true, Bool.and_eq_true]
  exact ⟨decide_eq_true h0, decide_eq_true h1, decide_eq_true ha⟩
end
/-- a loop by its invariant -/
theorem forL_inv {g : Tgt} {b : DenS} {xs : List D} (P : Nat → Env → Store → Prop)
    (step : ∀ i x e S, xs[i]? = some x → P i e S → ∃ e1, g x e S = some e1 ∧ ∃ e2 S2, (b e1 S = .next e2 S2 ∨ b e1 S = .cont e2 S2) ∧ P (i + 1) e2 S2) :
    ∀ (e : Env) (S : Store), P 0 e S → ∃ e' S', forL g b xs e S = .next e' S' ∧ P xs.length e' S' := by
  have go : ∀ (ys : List D) (i : Nat), xs.drop i = ys → i ≤ xs.length → ∀ e S, P i e S → ∃ e' S', forL g b ys e S = .next e' S' ∧ P xs.length e' S' := by
    intro ys
    induction ys with
    | nil =>
      intro i hd hi e S hp
      have : xs.length ≤ i := List.drop_eq_nil_iff.mp hd
      have e1 : i = xs.length := by omega
      subst e1
      exact ⟨e, S, rfl, hp⟩
    | cons y ys ih =>
      intro i hd hi e S hp
      have hlt : i < xs.length := by
        apply Classical.byContradiction
        intro hn
        rw [List.drop_eq_nil_of_le (by omega)] at hd
        cases hd
      have hx : xs[i]? = some y := by
        have := List.drop_eq_getElem_cons hlt
        rw [hd] at this
        injection this with h1 h2
        rw [h1, List.getElem?_eq_getElem hlt]
      obtain ⟨e1, hg, e2, S2, hb, hp2⟩ := step i y e S hx hp
      have hd2 : xs.drop (i + 1) = ys := by
        have := List.drop_eq_getElem_cons hlt
        rw [hd] at this
        injection this with h1 h2
        exact h2.symm
      obtain ⟨e', S', h1, h2⟩ := ih (i + 1) hd2 hlt e2 S2 hp2
      refine ⟨e', S', ?_, h2⟩
      unfold forL
      rw [hg]
      dsimp only
      rcases hb with hb | hb <;> rw [hb] <;> exact h1
  intro e S hp
  exact go xs 0 List.drop_zero (Nat.zero_le _) e S hp
theorem tidy_same {S S' : Store} {d : D} (h : S'.length = S.length) : tidy S (.ok d S') = .ok d S' := tidy_ok (Nat.le_of_eq h)
end Py
namespace Py
/-- a loop over a list of the store that stays as it is -/
theorem forR_inv {g : Tgt} {b : DenS} {n : Nat} {xs : List D} (P : Nat → Env → Store → Prop) (hS : ∀ i e S, P i e S → S[n]? = some (.lst xs))
    (step : ∀ i x e S, xs[i]? = some x → P i e S → ∃ e1, g x e S = some e1 ∧ ∃ e2 S2, (b e1 S = .next e2 S2 ∨ b e1 S = .cont e2 S2) ∧ P (i + 1) e2 S2) :
    ∀ (e : Env) (S : Store), P 0 e S → ∃ e' S', forW g b (wkR n) xs.length 0 e S = .next e' S' ∧ P xs.length e' S' := by
  have go : ∀ (f i : Nat), i + f = xs.length → ∀ e S, P i e S → ∃ e' S', forW g b (wkR n) f i e S = .next e' S' ∧ P xs.length e' S' := by
    intro f
    induction f with
    | zero =>
      intro i hi e S hp
      have h := hS i e S hp
      have hn : xs[i]? = none := List.getElem?_eq_none (by omega)
      refine ⟨e, S, ?_, by have : i = xs.length := by omega
                           rw [← this]; exact hp⟩
      unfold forW
      simp only [wkR, h, hn]
    | succ f ih =>
      intro i hi e S hp
      have h := hS i e S hp
      have hl : i < xs.length := by omega
      have hx : xs[i]? = some xs[i] := List.getElem?_eq_getElem hl
      obtain ⟨e1, hg, e2, S2, hb, hp2⟩ := step i _ e S hx hp
      obtain ⟨e', S', h1, h2⟩ := ih (i + 1) (by omega) e2 S2 hp2
      refine ⟨e', S', ?_, h2⟩
      unfold forW
      simp only [wkR, h, hx, hg]
      rcases hb with hb | hb <;> rw [hb] <;> exact h1
  intro e S hp
  exact go xs.length 0 (by omega) e S hp
end Py

set_option maxHeartbeats 4000000
/-! PyO: comprehensions that change nothing, lists of truths. -/
namespace Py
open PySem (Str sizeLine)
theorem lcW_pure {g : Tgt} {f : Den} {e0 : Env} {S : Store} {xs : List D} (φ : D → D)
    (hs : ∀ x ∈ xs, ∀ S', ∃ e1, g x e0 S' = some e1 ∧ f e1 S' = .ok (φ x) S') (hl : xs.length ≤ sizeLine) :
    ∀ (k i : Nat) (acc : List D), acc.length = i → i + k = xs.length → lcW g tYesD f (wkL xs) e0 S.length k i (S ++ [.lst acc]) = .ok () (S ++ [.lst (acc ++ (xs.drop i).map φ)])
  | 0, i, acc, ha, hk => by
    have hi : i = xs.length := by omega
    unfold lcW
    simp only [wkL, List.getElem?_eq_none (Nat.le_of_eq hi.symm)]
    rw [List.drop_eq_nil_of_le (Nat.le_of_eq hi.symm), List.map_nil, List.append_nil]
  | k + 1, i, acc, ha, hk => by
    have hi : i < xs.length := by omega
    obtain ⟨e1, h1, h2⟩ := hs xs[i] (List.getElem_mem hi) (S ++ [.lst acc])
    have hS : (S ++ [O.lst acc])[S.length]? = some (.lst acc) := by rw [List.getElem?_append_right (Nat.le_refl _), Nat.sub_self]; rfl
    have hset : (S ++ [O.lst acc]).set S.length (.lst (acc ++ [φ xs[i]])) = S ++ [.lst (acc ++ [φ xs[i]])] := by
      rw [List.set_append_right _ _ (Nat.le_refl _), Nat.sub_self]; rfl
    unfold lcW
    simp only [wkL, List.getElem?_eq_getElem hi, h1, tYesD, h2, hS]
    rw [if_pos (by omega), hset]
    have ih := lcW_pure (S := S) φ hs hl k (i + 1) (acc ++ [φ xs[i]]) (by rw [List.length_append, List.length_singleton]; omega) (by omega)
    rw [ih, List.drop_eq_getElem_cons hi, List.map_cons, List.append_assoc]
    rfl
theorem noRefL_map {xs : List D} {φ : D → D} (h : ∀ x ∈ xs, noRef (φ x) = true) : noRefL (xs.map φ) = true := by
  induction xs with
  | nil => rfl
  | cons x xs ih =>
    rw [List.map_cons]
    unfold noRefL
    rw [h x List.mem_cons_self, ih fun y hy => h y (List.mem_cons_of_mem _ hy)]
    rfl
theorem tidy_last {S : Store} {zs : List D} (h : noRefL zs = true) : tidy S (.ok (.ref S.length) (S ++ [.lst zs])) = .ok (.lst zs) S := by
  have hS : (S ++ [O.lst zs])[S.length]? = some (.lst zs) := by rw [List.getElem?_append_right (Nat.le_refl _), Nat.sub_self]; rfl
  have hr : res S.length (S ++ [.lst zs]) (.ref S.length) = some (.lst zs) := by
    unfold res mapR resN
    rw [if_neg (Nat.lt_irrefl _), hS]
    dsimp only
    rw [mapRL_no h]
    rfl
  rcases tidy_app (S := S) (T := [.lst zs]) hr with z | ⟨z, _⟩
  · exact z
  · cases z
theorem eLc_pure {vs : List Nat} {gi : DenI} {g : Tgt} {f : Den} {e : Env} {S : Store} {xs : List D} (φ : D → D) (hgi : gi e S = .ok (wkL xs, xs.length) S)
    (hs : ∀ x ∈ xs, ∀ S', ∃ e1, g x (wipeE e vs) S' = some e1 ∧ f e1 S' = .ok (φ x) S') (hn : ∀ x ∈ xs, noRef (φ x) = true) (hl : xs.length ≤ sizeLine) :
    eLc vs gi g tYesD f e S = .ok (.lst (xs.map φ)) S := by
  unfold eLc
  rw [hgi]
  simp only [R.bind]
  rw [lcW_pure φ hs hl xs.length 0 [] rfl (by omega)]
  simp only [List.nil_append, List.drop_zero]
  exact tidy_last (noRefL_map hn)
theorem isBls_map {xs : List D} {p : D → Bool} : isBls (xs.map fun x => .bl (p x)) = some (xs.map p) := by
  induction xs with
  | nil => rfl
  | cons x xs ih =>
    rw [List.map_cons, List.map_cons]
    unfold isBls
    rw [ih]
    rfl
theorem oAll_map {xs : List D} {p : D → Bool} {S : Store} : oAll [.lst (xs.map fun x => .bl (p x))] S = .ok (.bl (xs.all p)) S := by
  unfold oAll lst1
  have : (asL (.lst (xs.map fun x => D.bl (p x))) S).bind isBls = some (xs.map p) := isBls_map
  simp only [this]
  rw [List.all_map]
  rfl
theorem oAny_map {xs : List D} {p : D → Bool} {S : Store} : oAny [.lst (xs.map fun x => .bl (p x))] S = .ok (.bl (xs.any p)) S := by
  unfold oAny lst1
  have : (asL (.lst (xs.map fun x => D.bl (p x))) S).bind isBls = some (xs.map p) := isBls_map
  simp only [this]
  rw [List.any_map]
  rfl
theorem idx_ref {S : Store} {p : Nat} {xs : List D} {i : Int} {v : D} (h : S[p]? = some (.lst xs)) (hv : L2.atI xs i = some v) : oIdx (.ref p) (.int i) S = .ok v S := by
  show (match (asSq (.ref p) S).bind (L2.atI · i) with | some v => R.ok v S | none => .bad) = _
  have : asSq (.ref p) S = some xs := by show (match S[p]? with | some (.lst xs) => some xs | _ => none) = _; rw [h]
  rw [this, Option.bind_some, hv]
theorem idx_lst {S : Store} {xs : List D} {i : Int} {v : D} (hv : L2.atI xs i = some v) : oIdx (.lst xs) (.int i) S = .ok v S := by
  show (match (asSq (.lst xs) S).bind (L2.atI · i) with | some v => R.ok v S | none => .bad) = _
  have : asSq (.lst xs) S = some xs := rfl
  rw [this, Option.bind_some, hv]
@[simp] theorem idx_tup {S : Store} {xs : List D} {i : Int} : oIdx (.tup xs) (.int i) S = (match L2.atI xs i with | some v => .ok v S | none => .bad) := rfl
theorem chg_at {S : Store} {p : Nat} {k : List D → Option (List D × D)} {xs ys : List D} {r : D} (h : S[p]? = some (.lst xs)) (hk : k xs = some (ys, r)) : chg k (.ref p) S = .ok r (S.set p (.lst ys)) := by
  unfold chg; dsimp only; rw [h]; dsimp only; rw [hk]
theorem lt_of_get {S : Store} {p : Nat} {o : O} (h : S[p]? = some o) : p < S.length := (List.getElem?_eq_some_iff.mp h).1
theorem atI_nat {α : Type} {xs : List α} {i : Nat} (h : i < xs.length) : L2.atI xs (i : Int) = some xs[i] := by
  unfold L2.atI L2.ixN
  rw [if_pos (by omega), if_pos (by omega)]
  simp [h]
theorem pure_ints (l : List Int) : pureL (l.map D.int) = true := by
  induction l with
  | nil => rfl
  | cons i l ih => simp only [List.map_cons, pureL, pureB, ih, Bool.and_self]
theorem depth_ints (l : List Int) : depthL (l.map D.int) = 0 := by
  induction l with
  | nil => rfl
  | cons i l ih => simp only [List.map_cons, depthL, depth, ih, Nat.max_self]
theorem fit_ints (l : List Int) : fit (.lst (l.map D.int)) = true := by
  unfold fit pureB depth
  rw [pure_ints, depth_ints]
  rfl
theorem fit_tints (l : List Int) : fit (.tup (l.map D.int)) = true := by
  unfold fit pureB depth
  rw [pure_ints, depth_ints]
  rfl
@[simp] theorem at4_0 {a b c d : D} : L2.atI [a, b, c, d] 0 = some a := rfl
@[simp] theorem at4_1 {a b c d : D} : L2.atI [a, b, c, d] 1 = some b := rfl
@[simp] theorem at4_2 {a b c d : D} : L2.atI [a, b, c, d] 2 = some c := rfl
@[simp] theorem at4_3 {a b c d : D} : L2.atI [a, b, c, d] 3 = some d := rfl
@[simp] theorem at2_0 {a b : D} : L2.atI [a, b] 0 = some a := rfl
@[simp] theorem at2_1 {a b : D} : L2.atI [a, b] 1 = some b := rfl
@[simp] theorem at1_0 {a : D} : L2.atI [a] 0 = some a := rfl
theorem atI_c0 {α : Type} {a : α} {xs : List α} : L2.atI (a :: xs) 0 = some a := by
  unfold L2.atI L2.ixN
  rw [if_pos (by omega), if_pos (by simp only [List.length_cons]; omega)]
  rfl
theorem atI_c1 {α : Type} {a b : α} {xs : List α} : L2.atI (a :: b :: xs) 1 = some b := by
  unfold L2.atI L2.ixN
  rw [if_pos (by omega), if_pos (by simp only [List.length_cons]; omega)]
  rfl
theorem atI_c2 {α : Type} {a b c : α} {xs : List α} : L2.atI (a :: b :: c :: xs) 2 = some c := by
  unfold L2.atI L2.ixN
  rw [if_pos (by omega), if_pos (by simp only [List.length_cons]; omega)]
  rfl
/-- what is not the store's: the store stays beside p -/
def Fr1 (S S' : Store) (p : Nat) : Prop := S'.length = S.length ∧ ∀ k, k ≠ p → S'[k]? = S[k]?
theorem Fr1.refl {S : Store} {p : Nat} : Fr1 S S p := ⟨rfl, fun _ _ => rfl⟩
theorem Fr1.trans {S S1 S2 : Store} {p : Nat} (a : Fr1 S S1 p) (b : Fr1 S1 S2 p) : Fr1 S S2 p := ⟨b.1.trans a.1, fun k h => (b.2 k h).trans (a.2 k h)⟩
theorem Fr1.set {S : Store} {p : Nat} {o : O} : Fr1 S (S.set p o) p := ⟨List.length_set, fun k h => List.getElem?_set_ne (Ne.symm h)⟩
end Py

set_option maxHeartbeats 4000000
/-! PyP: what the laws' own helpers do: the pot. -/
namespace Py
open PySem (Str sizeLine)
/-- the store has the pot at p -/
def Pot (S : Store) (p : Nat) : Prop := ∃ (a b c : Int) (cs : List Int), S[p]? = some (.lst (.int a :: .int b :: .int c :: cs.map .int)) ∧ 0 ≤ a ∧ 0 ≤ b ∧ b < 2147483648 ∧ 3 ≤ c ∧ c ≤ 3 + cs.length ∧ cs.length ≤ 63
theorem Pot.lt {S : Store} {p : Nat} (h : Pot S p) : p < S.length := by
  obtain ⟨a, b, c, cs, h, _⟩ := h
  exact lt_of_get h
theorem Pot.app {S T : Store} {p : Nat} (h : Pot S p) : Pot (S ++ T) p := by
  have hl := h.lt
  obtain ⟨a, b, c, cs, h, r⟩ := h
  exact ⟨a, b, c, cs, by rw [List.getElem?_append_left hl]; exact h, r⟩
theorem Pot.same {S S' : Store} {p : Nat} (h : Pot S p) (e : S'[p]? = S[p]?) : Pot S' p := by
  obtain ⟨a, b, c, cs, h, r⟩ := h
  exact ⟨a, b, c, cs, e.trans h, r⟩
def takeD : DenS :=
  (sSeq (sIf (tAnd (tVal (eBin oEq (eBin oIdx (eVar 0) (eC (.int 0))) (eC (.int 0)))) (tVal (eBin oLt (eBin oIdx (eVar 0) (eC (.int 2))) (eFn oLen (dCons (eVar 0) dNil)))))
    (sSeq (sSet 2 (eBin oIdx (eVar 0) (eBin oIdx (eVar 0) (eC (.int 2)))))
    (sSeq (sExpr (eAugI (eVar 0) (eC (.int 2)) (fun i j => i + j) (eC (.int 1))))
    (sIf (tVal (eBin oGe (eVar 2) (eBin oPow (eC (.int 10)) (eC (.int 18)))))
    (sExpr (eSetI (eBin oSub (eVar 2) (eBin oPow (eC (.int 10)) (eC (.int 18)))) (eVar 0) (eC (.int 0))))
    (sSeq (sSet 3 (eBin oMod (eFn oInt (dCons (eVar 2) dNil)) (eC (.int 2147483647))))
    (sSeq (sSet 3 (eBin oMod (eFn oInt (dCons (eBin oCat (eBin oCat (eBin oRep (eVar 3) (eVar 3)) (eBin oRep (eC (.int 69621)) (eVar 3))) (eBin oRep (eC (.int 977)) (eBin oIdx (eVar 0) (eC (.int 2))))) dNil)) (eC (.int 2147483629))))
    (sExpr (eSetI (eBin oMod (eFn oInt (dCons (eBin oCat (eBin oIdx (eVar 0) (eC (.int 1))) (eVar 3)) dNil)) (eC (.int 2147483629))) (eVar 0) (eC (.int 1)))))))))
    sPass)
    (sSeq (sIf (tVal (eBin oGt (eBin oIdx (eVar 0) (eC (.int 0))) (eC (.int 0))))
    (sSeq (sSet 4 (eBin oMod (eFn oInt (dCons (eBin oIdx (eVar 0) (eC (.int 0))) dNil)) (eVar 1)))
    (sSeq (sExpr (eSetI (eBin oFdiv (eBin oIdx (eVar 0) (eC (.int 0))) (eVar 1)) (eVar 0) (eC (.int 0))))
    (sRet (eVar 4))))
    sPass)
    (sSeq (sExpr (eSetI (eBin oMod (eFn oInt (dCons (eBin oCat (eBin oCat (eBin oRep (eBin oIdx (eVar 0) (eC (.int 1))) (eC (.int 48271))) (eBin oRep (eC (.int 40692)) (eBin oIdx (eVar 0) (eC (.int 2))))) (eC (.int 11))) dNil)) (eC (.int 2147483647))) (eVar 0) (eC (.int 1))))
    (sSeq (sExpr (eSetI (eBin oMod (eFn oInt (dCons (eBin oCat (eBin oRep (eBin oIdx (eVar 0) (eC (.int 1))) (eBin oIdx (eVar 0) (eC (.int 1)))) (eC (.int 7))) dNil)) (eC (.int 2147483629))) (eVar 0) (eC (.int 1))))
    (sRet (eBin oMod (eFn oInt (dCons (eBin oFdiv (eBin oIdx (eVar 0) (eC (.int 1))) (eC (.int 8))) dNil)) (eVar 1)))))))
theorem kSet_c0 {v x : D} {xs : List D} : kSet (.int 0) v (x :: xs) = some (v :: xs, .non) := by
  unfold kSet L2.ixN
  simp only [List.length_cons]
  rw [if_pos (by omega), if_pos (by omega)]
  rfl
theorem kSet_c1 {v x y : D} {xs : List D} : kSet (.int 1) v (x :: y :: xs) = some (x :: v :: xs, .non) := by
  unfold kSet L2.ixN
  simp only [List.length_cons]
  rw [if_pos (by omega), if_pos (by omega)]
  rfl
theorem kSet_c2 {v x y z : D} {xs : List D} : kSet (.int 2) v (x :: y :: z :: xs) = some (x :: y :: v :: xs, .non) := by
  unfold kSet L2.ixN
  simp only [List.length_cons]
  rw [if_pos (by omega), if_pos (by omega)]
  rfl
theorem len_ref {S : Store} {p : Nat} {xs : List D} (h : S[p]? = some (.lst xs)) : oLen [.ref p] S = .ok (.int xs.length) S := by
  show (match asSq (.ref p) S with | some xs => R.ok (D.int xs.length) S | none => .bad) = _
  have : asSq (.ref p) S = some xs := by show (match S[p]? with | some (.lst xs) => some xs | _ => none) = _; rw [h]
  rw [this]
theorem augGet_c2 {S : Store} {p : Nat} {x y : D} {c : Int} {xs : List D} (h : S[p]? = some (.lst (x :: y :: .int c :: xs))) : augGet (.ref p) (.int 2) S = some c := by
  unfold augGet
  simp only [h]
  rfl
theorem sm {a : Int} {B : Nat} (h : a.natAbs ≤ B) (hB : B < 2 ^ 1000) : a.natAbs < 2 ^ 1000 := Nat.lt_of_le_of_lt h hB
theorem pow18 {S : Store} : oPow (.int 10) (.int 18) S = .ok (.int 1000000000000000000) S := by rw [oPow_i (by decide)]; rfl
theorem modOk {a b : Int} (h : 0 < b) {S : Store} : oMod (.int a) (.int b) S = .ok (.int (a.fmod b)) S := oMod_i (by omega)
theorem pot_cell {a b c : Int} {cs : List Int} (h3 : 3 ≤ c) (h4 : c < 3 + cs.length) : ∃ x : Int, L2.atI (D.int a :: .int b :: .int c :: cs.map .int) c = some (.int x) := by
  have hl : c.toNat < (D.int a :: .int b :: .int c :: cs.map D.int).length := by simp only [List.length_cons, List.length_map]; omega
  have e := atI_nat hl
  rw [show ((c.toNat : Nat) : Int) = c by omega] at e
  rw [e]
  have : ∀ y ∈ (D.int a :: .int b :: .int c :: cs.map D.int), ∃ x : Int, y = .int x := by
    intro y hy
    simp only [List.mem_cons, List.mem_map] at hy
    rcases hy with h | h | h | ⟨x, _, h⟩
    · exact ⟨_, h⟩
    · exact ⟨_, h⟩
    · exact ⟨_, h⟩
    · exact ⟨_, h.symm⟩
  obtain ⟨x, hx⟩ := this _ (List.getElem_mem hl)
  exact ⟨x, by rw [hx]⟩
theorem take_body {S : Store} {p : Nat} {m : Int} (hP : Pot S p) (h0 : 0 < m) (h1 : m.natAbs < 2 ^ 1000) :
    ∃ v S', runBody takeD 5 [.ref p, .int m] S = .ok (.int v) S' ∧ 0 ≤ v ∧ v < m ∧ Pot S' p ∧ Fr1 S S' p := by
  have hm0 : m ≠ 0 := by omega
  have hdm : divOk m = true := divOk_small hm0 h1
  have hA : ∃ o2 o3 S1, (sIf (tAnd (tVal (eBin oEq (eBin oIdx (eVar 0) (eC (.int 0))) (eC (.int 0)))) (tVal (eBin oLt (eBin oIdx (eVar 0) (eC (.int 2))) (eFn oLen (dCons (eVar 0) dNil)))))
    (sSeq (sSet 2 (eBin oIdx (eVar 0) (eBin oIdx (eVar 0) (eC (.int 2)))))
    (sSeq (sExpr (eAugI (eVar 0) (eC (.int 2)) (fun i j => i + j) (eC (.int 1))))
    (sIf (tVal (eBin oGe (eVar 2) (eBin oPow (eC (.int 10)) (eC (.int 18)))))
    (sExpr (eSetI (eBin oSub (eVar 2) (eBin oPow (eC (.int 10)) (eC (.int 18)))) (eVar 0) (eC (.int 0))))
    (sSeq (sSet 3 (eBin oMod (eFn oInt (dCons (eVar 2) dNil)) (eC (.int 2147483647))))
    (sSeq (sSet 3 (eBin oMod (eFn oInt (dCons (eBin oCat (eBin oCat (eBin oRep (eVar 3) (eVar 3)) (eBin oRep (eC (.int 69621)) (eVar 3))) (eBin oRep (eC (.int 977)) (eBin oIdx (eVar 0) (eC (.int 2))))) dNil)) (eC (.int 2147483629))))
    (sExpr (eSetI (eBin oMod (eFn oInt (dCons (eBin oCat (eBin oIdx (eVar 0) (eC (.int 1))) (eVar 3)) dNil)) (eC (.int 2147483629))) (eVar 0) (eC (.int 1)))))))))
    sPass) [some (.ref p), some (.int m), none, none, none] S = .next [some (.ref p), some (.int m), o2, o3, none] S1 ∧ Pot S1 p ∧ Fr1 S S1 p := by
    obtain ⟨a, b, c, cs, g, ha, hb, hb2, hc, hc2, hl⟩ := id hP
    by_cases hz : a = 0
    · by_cases hc3 : c < 3 + cs.length
      · obtain ⟨x, hx⟩ := pot_cell (a := a) (b := b) hc hc3
        have lt : decide (c < ((D.int a :: .int b :: .int c :: cs.map D.int).length : Int)) = true := decide_eq_true (by simp only [List.length_cons, List.length_map]; omega)
        have g1 : (S.set p (.lst (.int a :: .int b :: .int (c + 1) :: cs.map .int)))[p]? = some (.lst (.int a :: .int b :: .int (c + 1) :: cs.map .int)) := List.getElem?_set_self (lt_of_get g)
        by_cases hbig : 1000000000000000000 ≤ x
        · refine ⟨some (.int x), none, (S.set p (.lst (.int a :: .int b :: .int (c + 1) :: cs.map .int))).set p (.lst (.int (x - 1000000000000000000) :: .int b :: .int (c + 1) :: cs.map .int)), ?_, ⟨x - 1000000000000000000, b, c + 1, cs, ?_, ?_, hb, hb2, ?_, ?_, hl⟩, Fr1.trans .set .set⟩
          · subst hz
            simp only [sIf_ap, tAnd_ap, tVal_ap, eBin_ap, eVar_c0, eVar_c, eC_ap, R.bind, idx_ref g atI_c0, idx_ref g atI_c2, oEq_i, eFn_ap, dCons_ap, dNil_ap, len_ref g, oLt_i, lt, sSeq_ap, sSet_ap, idx_ref g hx, sExpr_ap, eAugI, augJ, augGet_c2 g, optR_some, augF, asI, chg_at g kSet_c2, List.set, pow18, oGe_i, eSetI_ap, oSub_i, chg_at g1 kSet_c0, hbig, decide_true, if_true, BEq.rfl]
          · rw [List.getElem?_set_self (by rw [List.length_set]; exact lt_of_get g)]
          · omega
          · omega
          · omega
        · have d1 : decide (1000000000000000000 ≤ x) = false := decide_eq_false hbig
          have y0 := Int.fmod_nonneg_of_pos x (show (0 : Int) < 2147483647 by decide)
          have y1 := Int.fmod_lt_of_pos x (show (0 : Int) < 2147483647 by decide)
          have m1 : mulOk (x.fmod 2147483647) (x.fmod 2147483647) = true := mulOk_small (sm (B := 2147483647) (by omega) (by decide)) (sm (B := 2147483647) (by omega) (by decide))
          have m2 : mulOk 69621 (x.fmod 2147483647) = true := mulOk_small (by decide) (sm (B := 2147483647) (by omega) (by decide))
          have m3 : mulOk 977 (c + 1) = true := mulOk_small (by decide) (sm (B := 100) (by omega) (by decide))
          have z0 := Int.fmod_nonneg_of_pos (b + (x.fmod 2147483647 * x.fmod 2147483647 + 69621 * x.fmod 2147483647 + 977 * (c + 1)).fmod 2147483629) (show (0 : Int) < 2147483629 by decide)
          have z1 := Int.fmod_lt_of_pos (b + (x.fmod 2147483647 * x.fmod 2147483647 + 69621 * x.fmod 2147483647 + 977 * (c + 1)).fmod 2147483629) (show (0 : Int) < 2147483629 by decide)
          refine ⟨some (.int x), some (.int ((x.fmod 2147483647 * x.fmod 2147483647 + 69621 * x.fmod 2147483647 + 977 * (c + 1)).fmod 2147483629)), (S.set p (.lst (.int a :: .int b :: .int (c + 1) :: cs.map .int))).set p (.lst (.int a :: .int ((b + (x.fmod 2147483647 * x.fmod 2147483647 + 69621 * x.fmod 2147483647 + 977 * (c + 1)).fmod 2147483629).fmod 2147483629) :: .int (c + 1) :: cs.map .int)), ?_, ⟨a, (b + (x.fmod 2147483647 * x.fmod 2147483647 + 69621 * x.fmod 2147483647 + 977 * (c + 1)).fmod 2147483629).fmod 2147483629, c + 1, cs, ?_, ha, z0, ?_, ?_, ?_, hl⟩, Fr1.trans .set .set⟩
          · subst hz
            simp only [sIf_ap, tAnd_ap, tVal_ap, eBin_ap, eVar_c0, eVar_c, eC_ap, R.bind, idx_ref g atI_c0, idx_ref g atI_c2, oEq_i, eFn_ap, dCons_ap, dNil_ap, len_ref g, oLt_i, lt, sSeq_ap, sSet_ap, idx_ref g hx, sExpr_ap, eAugI, augJ, augGet_c2 g, optR_some, augF, asI, chg_at g kSet_c2, List.set, pow18, oGe_i, eSetI_ap, oSub_i, d1, decide_true, if_true, BEq.rfl, oInt_i, modOk (show (0 : Int) < 2147483647 by decide), modOk (show (0 : Int) < 2147483629 by decide), oRep_i m1, oRep_i m2, oRep_i m3, oCat_i, idx_ref g1 atI_c1, idx_ref g1 atI_c2, chg_at g1 kSet_c1, Bool.false_eq_true, if_false]
          · rw [List.getElem?_set_self (by rw [List.length_set]; exact lt_of_get g)]
          · omega
          · omega
          · omega
      · refine ⟨none, none, S, ?_, hP, .refl⟩
        have lt : decide (c < ((D.int a :: .int b :: .int c :: cs.map D.int).length : Int)) = false := decide_eq_false (by simp only [List.length_cons, List.length_map]; omega)
        subst hz
        simp only [sIf_ap, tAnd_ap, tVal_ap, eBin_ap, eVar_c0, eC_ap, R.bind, idx_ref g atI_c0, idx_ref g atI_c2, oEq_i, eFn_ap, dCons_ap, dNil_ap, len_ref g, oLt_i, lt, if_true, BEq.rfl, Bool.false_eq_true, if_false, sPass_ap]
    · have hz' : (a == 0) = false := by simp [hz]
      refine ⟨none, none, S, ?_, hP, .refl⟩
      simp only [sIf_ap, tAnd_ap, tVal_ap, eBin_ap, eVar_c0, eC_ap, R.bind, idx_ref g atI_c0, oEq_i, hz', Bool.false_eq_true, if_false, sPass_ap]
  obtain ⟨o2, o3, S1, eA, P1, F1⟩ := hA
  obtain ⟨a, b, c, cs, g, ha, hb, hb2, hc, hc2, hl⟩ := id P1
  unfold runBody takeD
  simp only [List.map_cons, List.map_nil, List.length_cons, List.length_nil, List.replicate, List.cons_append, List.nil_append]
  rw [sSeq_ap, eA]
  by_cases hr : 0 < a
  · have g1 : (S1.set p (.lst (.int (a.fdiv m) :: .int b :: .int c :: cs.map .int)))[p]? = some (.lst (.int (a.fdiv m) :: .int b :: .int c :: cs.map .int)) := List.getElem?_set_self (lt_of_get g)
    refine ⟨a.fmod m, _, ?_, Int.fmod_nonneg_of_pos _ h0, Int.fmod_lt_of_pos _ h0, ⟨_, _, _, cs, g1, Int.fdiv_nonneg ha (by omega), hb, hb2, hc, hc2, hl⟩, F1.trans .set⟩
    simp only [sSeq_ap, sIf_ap, tVal_ap, eBin_ap, eVar_c0, eVar_c, eC_ap, R.bind, idx_ref g atI_c0, oGt_i, hr, decide_true, if_true, sSet_ap, eFn_ap, dCons_ap, dNil_ap, oInt_i, oMod_i hm0, List.set, sExpr_ap, eSetI_ap, oFdiv_i hdm, chg_at g kSet_c0, sRet_ap]
  · have m1 : mulOk b 48271 = true := mulOk_small (sm (B := 2147483648) (by omega) (by decide)) (by decide)
    have m2 : mulOk 40692 c = true := mulOk_small (by decide) (sm (B := 100) (by omega) (by decide))
    have y0 := Int.fmod_nonneg_of_pos (b * 48271 + 40692 * c + 11) (show (0 : Int) < 2147483647 by decide)
    have y1 := Int.fmod_lt_of_pos (b * 48271 + 40692 * c + 11) (show (0 : Int) < 2147483647 by decide)
    generalize hy : (b * 48271 + 40692 * c + 11).fmod 2147483647 = y at y0 y1
    have m3 : mulOk y y = true := mulOk_small (sm (B := 2147483648) (by omega) (by decide)) (sm (B := 2147483648) (by omega) (by decide))
    have z0 := Int.fmod_nonneg_of_pos (y * y + 7) (show (0 : Int) < 2147483629 by decide)
    have z1 := Int.fmod_lt_of_pos (y * y + 7) (show (0 : Int) < 2147483629 by decide)
    generalize hz : (y * y + 7).fmod 2147483629 = z at z0 z1
    have g1 : (S1.set p (.lst (.int a :: .int y :: .int c :: cs.map .int)))[p]? = some (.lst (.int a :: .int y :: .int c :: cs.map .int)) := List.getElem?_set_self (lt_of_get g)
    have g2 : ((S1.set p (.lst (.int a :: .int y :: .int c :: cs.map .int))).set p (.lst (.int a :: .int z :: .int c :: cs.map .int)))[p]? = some (.lst (.int a :: .int z :: .int c :: cs.map .int)) := List.getElem?_set_self (by rw [List.length_set]; exact lt_of_get g)
    have e8 : divOk 8 = true := by decide
    refine ⟨(z.fdiv 8).fmod m, _, ?_, Int.fmod_nonneg_of_pos _ h0, Int.fmod_lt_of_pos _ h0, ⟨_, _, _, cs, g2, ha, z0, by omega, hc, hc2, hl⟩, F1.trans (.trans .set .set)⟩
    simp only [sSeq_ap, sIf_ap, tVal_ap, eBin_ap, eVar_c0, eVar_c, eC_ap, R.bind, idx_ref g atI_c0, idx_ref g atI_c1, idx_ref g atI_c2, oGt_i, hr, decide_false, Bool.false_eq_true, if_false, sPass_ap, sSet_ap, eFn_ap, dCons_ap, dNil_ap, oInt_i, oRep_i m1, oRep_i m2, oRep_i m3, oCat_i, modOk (show (0 : Int) < 2147483647 by decide), modOk (show (0 : Int) < 2147483629 by decide), hy, hz, sExpr_ap, eSetI_ap, chg_at g kSet_c1, chg_at g1 kSet_c1, idx_ref g1 atI_c1, idx_ref g2 atI_c1, oFdiv_i e8, oMod_i hm0, sRet_ap]
end Py

set_option maxHeartbeats 4000000
/-! PyQ: what the laws' own helpers do: judging values, lowest terms, the same. -/
namespace Py
open PySem (Str sizeLine)
def isI : D → Bool | .int _ => true | _ => false
/-- neither of the store nor an exception -/
def Vl : D → Bool | .ref _ => false | .exc _ _ => false | _ => true
section
variable {anc : Anc} {S : Store} {Γ : Calls} {i : Nat}
def isIntD (anc : Anc) : DenS := (sRet (eAnd (eIsi anc [(.ty .int)] (eVar 0)) (eNot (eIsi anc [(.ty .bool)] (eVar 0)))))
theorem isInt_body {d : D} (h : Vl d = true) : runBody (isIntD anc) 1 [d] S = .ok (.bl (isI d)) S := by
  cases d <;> first | rfl | cases h
def isTup : D → Bool | .tup _ => true | _ => false
theorem isiT {f : Den} {e : Env} {d : D} (hf : f e S = .ok d S) (h : Vl d = true) : eIsi anc [(.ty .tuple)] f e S = .ok (.bl (isTup d)) S := by
  rw [eIsi_ap, hf]
  cases d <;> first | rfl | cases h
theorem all_lc {xs : List D} {f : D → Bool} {o : Option D} {e : Env} (hG : ∀ x ∈ xs, ∀ S', Γ i [x] S' = .ok (.bl (f x)) S') (hl : xs.length ≤ sizeLine) :
    eFn oAll (dCons (eLc [1] (dSeq (eVar 0)) (gNm 1) tYesD (eCall Γ i (dCons (eVar 1) dNil))) dNil) (some (.tup xs) :: o :: e) S = .ok (.bl (xs.all f)) S := by
  have h := eLc_pure (vs := [1]) (gi := dSeq (eVar 0)) (g := gNm 1) (f := eCall Γ i (dCons (eVar 1) dNil)) (e := some (.tup xs) :: o :: e) (S := S) (xs := xs) (fun x => .bl (f x)) rfl
    (fun x hx S' => ⟨_, rfl, by
      have := hG x hx S'
      simp only [wipeE, List.set, eCall_ap, dCons_ap, eVar_c, eVar_c0, dNil_ap, R.bind]
      exact this⟩) (fun _ _ => rfl) hl
  rw [eFn_ap, dCons_ap, h]
  exact oAll_map
/-! polynomials -/
def polyB : D → Bool
  | .tup xs => xs.all isI && (match xs with | .int a :: _ => a != 0 | _ => true)
  | _ => false
noncomputable def polyD (anc : Anc) (Γ : Calls) (i : Nat) : DenS :=
  (sSeq (sIf (tOr (tNot (tVal (eIsi anc [(.ty .tuple)] (eVar 0)))) (tNot (tVal (eFn oAll (dCons (eLc [1] (dSeq (eVar 0)) (gNm 1) tYesD (eCall Γ i (dCons (eVar 1) dNil))) dNil)))))
    (sRet (eC (.bl false)))
    sPass)
    (sRet (eOr (eBin oEq (eVar 0) (eTup dNil)) (eBin oNe (eBin oIdx (eVar 0) (eC (.int 0))) (eC (.int 0))))))
noncomputable def polyD' (anc : Anc) (Γ : Calls) (i : Nat) : DenS :=
  (sSeq (sIf (tOr (tNot (tVal (eIsi anc [(.ty .tuple)] (eVar 0)))) (tNot (tVal (eFn oAll (dCons (eLc [1] (dSeq (eVar 0)) (gNm 1) tYesD (eCall Γ i (dCons (eVar 1) dNil))) dNil)))))
    (sRet (eC (.bl false)))
    sPass)
    (sRet (eOr (eBin oEq (eFn oLen (dCons (eVar 0) dNil)) (eC (.int 0))) (eBin oNe (eBin oIdx (eVar 0) (eC (.int 0))) (eC (.int 0))))))
theorem ints_of : ∀ {xs : List D}, xs.all isI = true → ∃ l : List Int, xs = l.map .int
  | [], _ => ⟨[], rfl⟩
  | x :: xs, h => by
    simp only [List.all_cons, Bool.and_eq_true] at h
    obtain ⟨l, hl⟩ := ints_of h.2
    cases x with
    | int a => exact ⟨a :: l, by rw [hl]; rfl⟩
    | _ => cases h.1
/-- the judging head of is_polynomial, is_broken -/
theorem head2 {d : D} {f : D → Bool} {G : DenS} (hd : Vl d = true) (hG : ∀ xs, d = .tup xs → xs.length ≤ sizeLine ∧ ∀ x ∈ xs, ∀ S', Γ i [x] S' = .ok (.bl (f x)) S') :
    sSeq (sIf (tOr (tNot (tVal (eIsi anc [(.ty .tuple)] (eVar 0)))) (tNot (tVal (eFn oAll (dCons (eLc [1] (dSeq (eVar 0)) (gNm 1) tYesD (eCall Γ i (dCons (eVar 1) dNil))) dNil)))))
    (sRet (eC (.bl false))) sPass) G [some d, none] S = (match d with | .tup xs => if xs.all f then G [some d, none] S else .ret (.bl false) S | _ => .ret (.bl false) S) := by
  rw [sSeq_ap, sIf_ap, tOr_ap, tNot_ap, tVal_ap, isiT (anc := anc) (f := eVar 0) (d := d) rfl hd]
  by_cases ht : ∃ xs, d = .tup xs
  · obtain ⟨xs, rfl⟩ := ht
    obtain ⟨h1, h2⟩ := hG xs rfl
    have h := all_lc (Γ := Γ) (i := i) (f := f) (o := none) (e := []) (S := S) h2 h1
    simp only [isTup, R.bind, Bool.not_true, Bool.false_eq_true, if_false, tNot_ap, tVal_ap, h]
    cases q : xs.all f <;> simp
  · have : isTup d = false := by
      cases d <;> first | rfl | exact absurd ⟨_, rfl⟩ ht
    simp only [this, R.bind, Bool.not_false, if_true, sRet_ap, eC_ap]
    cases d <;> first | rfl | exact absurd ⟨_, rfl⟩ ht
theorem poly_body {d : D} (hd : Vl d = true) (hl : ∀ xs, d = .tup xs → xs.length ≤ sizeLine ∧ ∀ x ∈ xs, ∀ S', Γ i [x] S' = .ok (.bl (isI x)) S') :
    runBody (polyD anc Γ i) 2 [d] S = .ok (.bl (polyB d)) S := by
  unfold runBody polyD
  simp only [List.map_cons, List.map_nil, List.length_cons, List.length_nil, List.replicate, List.cons_append, List.nil_append]
  rw [head2 (f := isI) hd hl]
  cases d with
  | tup xs =>
    unfold polyB
    cases q : xs.all isI with
    | false => simp [q]
    | true =>
      obtain ⟨l, rfl⟩ := ints_of q
      have e1 : oEq (.tup (l.map D.int)) (.tup []) S = .ok (.bl (eqB (.tup (l.map D.int)) (.tup []))) S := oEq_fit (fit_tints l) rfl
      cases l with
      | nil =>
        have e0 : oEq (.tup []) (.tup []) S = .ok (.bl true) S := oEq_fit rfl rfl
        simp [e0]
      | cons a l =>
        simp only [List.map_cons] at *
        simp only [q, if_true, sRet_ap, eOr_ap, eBin_ap, eVar_c0, eTup_ap, dNil_ap, R.bind, e1, eqB, eqL, idx_tup, eC_ap, atI_c0, oNe_i, Bool.true_and]
        rfl
  | ref _ => cases hd
  | exc _ _ => cases hd
  | _ => rfl
theorem poly_body' {d : D} (hd : Vl d = true) (hl : ∀ xs, d = .tup xs → xs.length ≤ sizeLine ∧ ∀ x ∈ xs, ∀ S', Γ i [x] S' = .ok (.bl (isI x)) S') :
    runBody (polyD' anc Γ i) 2 [d] S = .ok (.bl (polyB d)) S := by
  unfold runBody polyD'
  simp only [List.map_cons, List.map_nil, List.length_cons, List.length_nil, List.replicate, List.cons_append, List.nil_append]
  rw [head2 (f := isI) hd hl]
  cases d with
  | tup xs =>
    unfold polyB
    cases q : xs.all isI with
    | false => simp [q]
    | true =>
      obtain ⟨l, rfl⟩ := ints_of q
      have e1 : oLen [.tup (l.map D.int)] S = .ok (.int (l.map D.int).length) S := rfl
      cases l with
      | nil =>
        have e0 : oLen [.tup []] S = .ok (.int 0) S := rfl
        simp [e0]
      | cons a l =>
        simp only [List.map_cons] at *
        have e2 : (((D.int a :: l.map D.int).length : Int) == 0) = false := by simp only [List.length_cons]; simp; omega
        simp only [q, if_true, sRet_ap, eOr_ap, eBin_ap, eFn_ap, dCons_ap, eVar_c0, dNil_ap, R.bind, e1, oEq_i, e2, idx_tup, eC_ap, atI_c0, oNe_i, Bool.true_and]
        rfl
  | ref _ => cases hd
  | exc _ _ => cases hd
  | _ => rfl
/-! numbers -/
def numB : D → Bool
  | .tup [.int a, .int b] => decide (0 < b) && (Nat.gcd a.natAbs b.natAbs == 1)
  | _ => false
noncomputable def numHead (anc : Anc) (Γ : Calls) (i : Nat) (G : DenS) : DenS :=
  (sSeq (sIf (tOr (tNot (tVal (eIsi anc [(.ty .tuple)] (eVar 0)))) (tOr (tVal (eBin oNe (eFn oLen (dCons (eVar 0) dNil)) (eC (.int 2)))) (tNot (tVal (eFn oAll (dCons (eLc [1] (dSeq (eVar 0)) (gNm 1) tYesD (eCall Γ i (dCons (eVar 1) dNil))) dNil))))))
    (sRet (eC (.bl false)))
    sPass) G)
def numT : DenS := (sRet (eAnd (eBin oGt (eBin oIdx (eVar 0) (eC (.int 1))) (eC (.int 0))) (eBin oEq (eFn oGcd (dCons (eBin oIdx (eVar 0) (eC (.int 0))) (dCons (eBin oIdx (eVar 0) (eC (.int 1))) dNil))) (eC (.int 1)))))
def numT' (Γ : Calls) (j : Nat) : DenS := (sRet (eAnd (eBin oGt (eBin oIdx (eVar 0) (eC (.int 1))) (eC (.int 0))) (eBin oEq (eCall Γ j (dCons (eBin oIdx (eVar 0) (eC (.int 0))) (dCons (eBin oIdx (eVar 0) (eC (.int 1))) dNil))) (eVar 0))))
def two : D → Option (Int × Int)
  | .tup [.int a, .int b] => some (a, b)
  | _ => none
theorem numHead_ok {d : D} {G : DenS} (hd : Vl d = true) (hG : ∀ xs, d = .tup xs → xs.length ≤ sizeLine ∧ ∀ x ∈ xs, ∀ S', Γ i [x] S' = .ok (.bl (isI x)) S') :
    numHead anc Γ i G [some d, none] S = (match two d with | some _ => G [some d, none] S | none => .ret (.bl false) S) := by
  unfold numHead
  rw [sSeq_ap, sIf_ap, tOr_ap, tNot_ap, tVal_ap, isiT (anc := anc) (f := eVar 0) (d := d) rfl hd]
  by_cases ht : ∃ xs, d = .tup xs
  · obtain ⟨xs, rfl⟩ := ht
    obtain ⟨h1, h2⟩ := hG xs rfl
    have h := all_lc (Γ := Γ) (i := i) (f := isI) (o := none) (e := []) (S := S) h2 h1
    have e1 : oLen [.tup xs] S = .ok (.int xs.length) S := rfl
    simp only [isTup, R.bind, Bool.not_true, Bool.false_eq_true, if_false, tNot_ap, tVal_ap, tOr_ap, h, eBin_ap, eFn_ap, dCons_ap, eVar_c0, dNil_ap, e1, eC_ap, oNe_i]
    rcases xs with _ | ⟨x, _ | ⟨y, _ | ⟨z, zs⟩⟩⟩
    · rfl
    · cases x <;> rfl
    · have e2 : (!((([x, y] : List D).length : Int) == 2)) = false := rfl
      have : two (.tup [x, y]) = if ([x, y] : List D).all isI then two (.tup [x, y]) else none := by
        cases x <;> cases y <;> rfl
      rw [this]
      simp only [e2, Bool.false_eq_true, if_false]
      cases q : ([x, y] : List D).all isI with
      | false => simp
      | true =>
        obtain ⟨l, hl⟩ := ints_of q
        rcases l with _ | ⟨a, _ | ⟨b, _ | ⟨c, l⟩⟩⟩ <;> simp at hl
        obtain ⟨rfl, rfl⟩ := hl
        simp [two]
    · have e2 : (!((((x :: y :: z :: zs) : List D).length : Int) == 2)) = true := by simp; omega
      have e3 : two (.tup (x :: y :: z :: zs)) = none := by cases x <;> cases y <;> rfl
      simp only [e2, if_true, e3, sRet_ap, eC_ap]
  · have : isTup d = false := by
      cases d <;> first | rfl | exact absurd ⟨_, rfl⟩ ht
    simp only [this, R.bind, Bool.not_false, if_true, sRet_ap, eC_ap]
    cases d <;> first | rfl | exact absurd ⟨_, rfl⟩ ht
theorem two_of {d : D} {a b : Int} (h : two d = some (a, b)) : d = .tup [.int a, .int b] := by
  unfold two at h
  split at h
  · cases h; rfl
  · cases h
theorem num_of {d : D} : numB d = match two d with | some (a, b) => decide (0 < b) && (Nat.gcd a.natAbs b.natAbs == 1) | none => false := by
  unfold numB two
  split <;> rfl
theorem num_body {d : D} (hd : Vl d = true) (hG : ∀ xs, d = .tup xs → xs.length ≤ sizeLine ∧ ∀ x ∈ xs, ∀ S', Γ i [x] S' = .ok (.bl (isI x)) S') :
    runBody (numHead anc Γ i numT) 2 [d] S = .ok (.bl (numB d)) S := by
  unfold runBody
  simp only [List.map_cons, List.map_nil, List.length_cons, List.length_nil, List.replicate, List.cons_append, List.nil_append]
  rw [numHead_ok hd hG, num_of]
  cases q : two d with
  | none => rfl
  | some ab =>
    obtain ⟨a, b⟩ := ab
    cases two_of q
    unfold numT
    by_cases hb : 0 < b
    · have : (((Nat.gcd a.natAbs b.natAbs : Nat) : Int) == 1) = (Nat.gcd a.natAbs b.natAbs == 1) := by
        rw [Bool.eq_iff_iff, beq_iff_eq, beq_iff_eq]; omega
      simp [hb, this]
    · simp [hb]
/-- the lowest terms -/
def cofP (a b : Int) : Int := if b < 0 then -((Nat.gcd a.natAbs b.natAbs : Nat) : Int) else ((Nat.gcd a.natAbs b.natAbs : Nat) : Int)
theorem num_body' {d : D} {j : Nat} (hd : Vl d = true) (hG : ∀ xs, d = .tup xs → xs.length ≤ sizeLine ∧ ∀ x ∈ xs, ∀ S', Γ i [x] S' = .ok (.bl (isI x)) S')
    (hL : ∀ a b : Int, two d = some (a, b) → 0 < b → ∀ S', Γ j [.int a, .int b] S' = .ok (.tup [.int (a.fdiv (Nat.gcd a.natAbs b.natAbs : Nat)), .int (b.fdiv (Nat.gcd a.natAbs b.natAbs : Nat))]) S') :
    runBody (numHead anc Γ i (numT' Γ j)) 2 [d] S = .ok (.bl (numB d)) S := by
  unfold runBody
  simp only [List.map_cons, List.map_nil, List.length_cons, List.length_nil, List.replicate, List.cons_append, List.nil_append]
  rw [numHead_ok hd hG, num_of]
  cases q : two d with
  | none => rfl
  | some ab =>
    obtain ⟨a, b⟩ := ab
    have hL1 := hL a b q
    cases two_of q
    unfold numT'
    by_cases hb : 0 < b
    · have e1 := oEq_fit (S := S) (fit_tints [a.fdiv (Nat.gcd a.natAbs b.natAbs : Nat), b.fdiv (Nat.gcd a.natAbs b.natAbs : Nat)]) (fit_tints [a, b])
      have hp : 0 < Nat.gcd a.natAbs b.natAbs := Nat.gcd_pos_of_pos_right _ (Int.natAbs_pos.mpr (by omega))
      have e2 : eqB (.tup ([a.fdiv (Nat.gcd a.natAbs b.natAbs : Nat), b.fdiv (Nat.gcd a.natAbs b.natAbs : Nat)].map D.int)) (.tup ([a, b].map D.int)) = (Nat.gcd a.natAbs b.natAbs == 1) := by
        simp only [List.map_cons, List.map_nil, eqB, eqL, Bool.and_true]
        rw [Bool.eq_iff_iff, Bool.and_eq_true, beq_iff_eq, beq_iff_eq, beq_iff_eq]
        generalize Nat.gcd a.natAbs b.natAbs = g at hp
        constructor
        · rintro ⟨_, h⟩
          have hg : 0 < (g : Int) := by omega
          rw [Int.fdiv_eq_ediv_of_nonneg _ (by omega)] at h
          have h2 := Int.ediv_mul_le b (show (g : Int) ≠ 0 by omega)
          rw [h] at h2
          have : (g : Int) ≤ 1 := by
            apply Int.le_of_not_gt
            intro hgt
            have : b * 2 ≤ b * g := Int.mul_le_mul_of_nonneg_left (by omega) (by omega)
            omega
          omega
        · intro h
          subst h
          exact ⟨by simp, by simp⟩
      rw [e2] at e1
      simp only [List.map_cons, List.map_nil] at e1
      simp [hb, hL1 hb, e1]
    · simp [hb]
end
end Py

set_option maxHeartbeats 4000000
/-! PyR: broken polynomials, lowest terms by Euclid, the same. -/
namespace Py
open PySem (Str sizeLine)
section
variable {anc : Anc} {S : Store} {Γ : Calls} {i : Nat}
def brkT : DenS := (sRet (eOr (eBin oEq (eVar 0) (eTup dNil)) (eBin oNe (eBin oIdx (eVar 0) (eC (.int 0))) (eC (.tup [(.int 0), (.int 1)])))))
def brkT' : DenS := (sRet (eOr (eBin oEq (eFn oLen (dCons (eVar 0) dNil)) (eC (.int 0))) (eBin oNe (eBin oIdx (eBin oIdx (eVar 0) (eC (.int 0))) (eC (.int 0))) (eC (.int 0)))))
noncomputable def brkD (anc : Anc) (Γ : Calls) (i : Nat) (G : DenS) : DenS :=
  (sSeq (sIf (tOr (tNot (tVal (eIsi anc [(.ty .tuple)] (eVar 0)))) (tNot (tVal (eFn oAll (dCons (eLc [1] (dSeq (eVar 0)) (gNm 1) tYesD (eCall Γ i (dCons (eVar 1) dNil))) dNil)))))
    (sRet (eC (.bl false)))
    sPass) G)
def brokenB : D → Bool
  | .tup xs => xs.all numB && (match xs with | .tup [.int a, .int _] :: _ => a != 0 | _ => true)
  | _ => false
theorem num_shape {d : D} (h : numB d = true) : ∃ a b : Int, d = .tup [.int a, .int b] ∧ 0 < b ∧ Nat.gcd a.natAbs b.natAbs = 1 := by
  unfold numB at h
  split at h
  · rename_i a b
    simp only [Bool.and_eq_true, decide_eq_true_eq, beq_iff_eq] at h
    exact ⟨a, b, rfl, h.1, h.2⟩
  · cases h
def pairD (q : Int × Int) : D := .tup [.int q.1, .int q.2]
theorem nums_of : ∀ {xs : List D}, xs.all numB = true → ∃ l : List (Int × Int), xs = l.map pairD
  | [], _ => ⟨[], rfl⟩
  | x :: xs, h => by
    simp only [List.all_cons, Bool.and_eq_true] at h
    obtain ⟨l, hl⟩ := nums_of h.2
    obtain ⟨a, b, rfl, _⟩ := num_shape h.1
    exact ⟨(a, b) :: l, by rw [hl]; rfl⟩
theorem pure_pairs (l : List (Int × Int)) : pureL (l.map pairD) = true := by
  induction l with
  | nil => rfl
  | cons i l ih => simp only [List.map_cons, pairD, pureL, pureB, Bool.and_true, ih]
theorem depth_pairs (l : List (Int × Int)) : depthL (l.map pairD) ≤ 1 := by
  induction l with
  | nil => exact Nat.zero_le _
  | cons i l ih => simp only [List.map_cons, depthL]; exact Nat.max_le.mpr ⟨Nat.le_refl _, ih⟩
theorem fit_pairs (l : List (Int × Int)) : fit (.tup (l.map pairD)) = true := by
  unfold fit pureB depth
  rw [pure_pairs, Bool.true_and]
  have := depth_pairs l
  exact decide_eq_true (by omega)
theorem brk_body {d : D} (hd : Vl d = true) (hl : ∀ xs, d = .tup xs → xs.length ≤ sizeLine ∧ ∀ x ∈ xs, ∀ S', Γ i [x] S' = .ok (.bl (numB x)) S') :
    runBody (brkD anc Γ i brkT) 2 [d] S = .ok (.bl (brokenB d)) S := by
  unfold runBody brkD
  simp only [List.map_cons, List.map_nil, List.length_cons, List.length_nil, List.replicate, List.cons_append, List.nil_append]
  rw [head2 (f := numB) hd hl]
  cases d with
  | tup xs =>
    unfold brokenB
    cases q : xs.all numB with
    | false => simp only [q, Bool.false_eq_true, if_false, Bool.false_and]
    | true =>
      obtain ⟨l, rfl⟩ := nums_of q
      have e1 : oEq (.tup (l.map pairD)) (.tup []) S = .ok (.bl (eqB (.tup (l.map pairD)) (.tup []))) S := oEq_fit (fit_pairs l) rfl
      cases l with
      | nil =>
        have e0 : oEq (.tup []) (.tup []) S = .ok (.bl true) S := oEq_fit rfl rfl
        simp [e0, brkT]
      | cons a l =>
        have e2 : oNe (pairD a) (.tup [.int 0, .int 1]) S = .ok (.bl (!eqB (pairD a) (.tup [.int 0, .int 1]))) S := oNe_fit (fit_tints [a.1, a.2]) (fit_tints [0, 1])
        have e3 : (!eqB (pairD a) (.tup [.int 0, .int 1])) = (a.1 != 0) := by
          simp only [List.map_cons, List.all_cons, Bool.and_eq_true] at q
          obtain ⟨x, y, h1, h2, h3⟩ := num_shape q.1
          unfold pairD at h1 ⊢
          injection h1 with h1
          injection h1 with h4 h5
          injection h4 with h4
          injection h5 with h5 _
          injection h5 with h5
          simp only [eqB, eqL, Bool.and_true]
          by_cases hz : a.1 = 0
          · have : a.2 = 1 := by
              rw [hz] at h4
              subst h4
              simp at h3
              omega
            rw [hz, this]; rfl
          · have : (a.1 == 0) = false := by simp [hz]
            simp [this, hz]
        simp only [List.map_cons] at *
        simp only [q, if_true, brkT, sRet_ap, eOr_ap, eBin_ap, eVar_c0, eTup_ap, dNil_ap, R.bind, e1, eqB, eqL, idx_tup, eC_ap, atI_c0, Bool.true_and, e2, e3]
        rfl
  | ref _ => cases hd
  | exc _ _ => cases hd
  | _ => rfl
theorem brk_body' {d : D} (hd : Vl d = true) (hl : ∀ xs, d = .tup xs → xs.length ≤ sizeLine ∧ ∀ x ∈ xs, ∀ S', Γ i [x] S' = .ok (.bl (numB x)) S') :
    runBody (brkD anc Γ i brkT') 2 [d] S = .ok (.bl (brokenB d)) S := by
  unfold runBody brkD
  simp only [List.map_cons, List.map_nil, List.length_cons, List.length_nil, List.replicate, List.cons_append, List.nil_append]
  rw [head2 (f := numB) hd hl]
  cases d with
  | tup xs =>
    unfold brokenB
    cases q : xs.all numB with
    | false => simp only [q, Bool.false_eq_true, if_false, Bool.false_and]
    | true =>
      obtain ⟨l, rfl⟩ := nums_of q
      have e1 : oLen [.tup (l.map pairD)] S = .ok (.int (l.map pairD).length) S := rfl
      cases l with
      | nil =>
        have e0 : oLen [.tup []] S = .ok (.int 0) S := rfl
        simp [e0, brkT']
      | cons a l =>
        simp only [List.map_cons] at *
        have e2 : (((pairD a :: l.map pairD).length : Int) == 0) = false := by simp only [List.length_cons]; simp; omega
        have e3 : oIdx (pairD a) (.int 0) S = .ok (.int a.1) S := rfl
        simp only [q, if_true, brkT', sRet_ap, eOr_ap, eBin_ap, eFn_ap, dCons_ap, eVar_c0, dNil_ap, R.bind, e1, oEq_i, e2, idx_tup, eC_ap, atI_c0, oNe_i, Bool.true_and, e3]
        rfl
  | ref _ => cases hd
  | exc _ _ => cases hd
  | _ => rfl
/-! lowest terms -/
def eucB : DenS := (sSeq (sIf (tVal (eBin oEq (eVar 3) (eC (.int 0)))) sBrk sPass)
    (sPar 2 3 (eVar 3) (eBin oMod (eFn oInt (dCons (eVar 2) dNil)) (eVar 3))))
def lowD : DenS :=
  (sSeq (sPar 2 3 (eFn oAbs (dCons (eVar 0) dNil)) (eFn oAbs (dCons (eVar 1) dNil)))
    (sSeq (sFor (gNm 4) (dRng1 (eC (.int 100000))) eucB)
    (sSeq (sSet 5 (eIf (tVal (eBin oGt (eVar 1) (eC (.int 0)))) (eC (.int 1)) (eUn oNeg (eC (.int 1)))))
    (sRet (eTup (dCons (eBin oFdiv (eBin oRep (eVar 5) (eVar 0)) (eVar 2)) (dCons (eBin oFdiv (eBin oRep (eVar 5) (eVar 1)) (eVar 2)) dNil)))))))
theorem euclid : ∀ (n : Nat) (ys : List D) (x y : Nat) (a b o4 o5 : Option D), y ≤ x → x * y < 2 ^ n → n < ys.length →
    ∃ o, forL (gNm 4) eucB ys [a, b, some (.int x), some (.int y), o4, o5] S = .next [a, b, some (.int (Nat.gcd x y : Nat)), some (.int 0), o, o5] S := by
  intro n
  induction n with
  | zero =>
    intro ys x y a b o4 o5 h1 h2 h3
    have hy : y = 0 := by
      rcases Nat.eq_zero_or_pos y with h | h
      · exact h
      · have : 0 < x * y := Nat.mul_pos (by omega) h
        omega
    subst hy
    cases ys with
    | nil => simp at h3
    | cons z zs => exact ⟨some z, by unfold forL; simp [eucB]⟩
  | succ n ih =>
    intro ys x y a b o4 o5 h1 h2 h3
    cases ys with
    | nil => simp at h3
    | cons z zs =>
      rcases Nat.eq_zero_or_pos y with h | h
      · subst h
        exact ⟨some z, by unfold forL; simp [eucB]⟩
      · have hm : x % y < y := Nat.mod_lt _ h
        have h4 : x % y + y ≤ x := by
          have := Nat.div_add_mod x y
          have h6 : 0 < x / y := Nat.div_pos h1 h
          have h7 : y * 1 ≤ y * (x / y) := Nat.mul_le_mul_left y h6
          omega
        have h5 : y * (x % y) * 2 ≤ x * y := by
          have := Nat.mul_le_mul_left y (show x % y * 2 ≤ x by omega)
          rw [Nat.mul_comm x y, Nat.mul_assoc]
          exact this
        obtain ⟨o, ho⟩ := ih zs y (x % y) a b (some z) o5 (by omega) (by rw [Nat.pow_succ] at h2; omega) (by simp only [List.length_cons] at h3; omega)
        refine ⟨o, ?_⟩
        have hb : ((y : Int) == 0) = false := by simp; omega
        have hf : ((x : Int).fmod (y : Int)) = ((x % y : Nat) : Int) := by rw [Int.fmod_eq_emod_of_nonneg _ (by omega)]; norm_cast
        unfold forL
        simp [eucB, hb, oMod_i (show (y : Int) ≠ 0 by omega), hf]
        have hg : Nat.gcd x y = Nat.gcd y (x % y) := by rw [Nat.gcd_comm x y, Nat.gcd_rec, Nat.gcd_comm]
        have ho' := ho
        unfold eucB at ho'
        simp at ho' ⊢
        rw [hg]
        exact ho'
theorem low_body {a b : Int} (hb : b ≠ 0) (h1 : a.natAbs < 2 ^ 1000) (h2 : b.natAbs < 2 ^ 1000) :
    runBody lowD 6 [.int a, .int b] S = .ok (.tup [.int (a.fdiv (cofP a b)), .int (b.fdiv (cofP a b))]) S := by
  have hp : 0 < Nat.gcd a.natAbs b.natAbs := Nat.gcd_pos_of_pos_right _ (Int.natAbs_pos.mpr hb)
  have hle : Nat.gcd a.natAbs b.natAbs ≤ b.natAbs := Nat.gcd_le_right _ (Int.natAbs_pos.mpr hb)
  have hR : inR 100000 = true := by decide
  have hl : (intsD 0 (100000 : Int).toNat).length = 100000 := by unfold intsD; rw [List.length_map, List.length_range]; rfl
  have loop : ∃ o, sFor (gNm 4) (dRng1 (eC (.int 100000))) eucB [some (.int a), some (.int b), some (.int a.natAbs), some (.int b.natAbs), none, none] S =
      .next [some (.int a), some (.int b), some (.int (Nat.gcd a.natAbs b.natAbs : Nat)), some (.int 0), o, none] S := by
    rw [sFor_L (xs := intsD 0 (100000 : Int).toNat) (by unfold dRng1; simp only [eC_ap, R.bind, hR, if_true]; rfl)]
    rcases Nat.le_total b.natAbs a.natAbs with h | h
    · exact euclid 2000 _ _ _ _ _ _ _ h (by
        calc a.natAbs * b.natAbs < 2 ^ 1000 * 2 ^ 1000 := Nat.mul_lt_mul'' h1 h2
          _ = 2 ^ 2000 := by rw [← Nat.pow_add]) (by rw [hl]; omega)
    · cases q : intsD 0 (100000 : Int).toNat with
      | nil => rw [q] at hl; simp at hl
      | cons z zs =>
        rcases Nat.eq_zero_or_pos b.natAbs with h0 | h0
        · exact absurd (Int.natAbs_eq_zero.mp h0) hb
        rcases Nat.lt_or_ge a.natAbs b.natAbs with hlt | hge
        · obtain ⟨o, ho⟩ := euclid (S := S) 2000 zs b.natAbs a.natAbs (some (.int a)) (some (.int b)) (some z) none h (by
            calc b.natAbs * a.natAbs < 2 ^ 1000 * 2 ^ 1000 := Nat.mul_lt_mul'' h2 h1
              _ = 2 ^ 2000 := by rw [← Nat.pow_add]) (by rw [q] at hl; simp only [List.length_cons] at hl; omega)
          refine ⟨o, ?_⟩
          have hb0 : ((b.natAbs : Int) == 0) = false := by simp; omega
          have hf : ((a.natAbs : Int).fmod (b.natAbs : Int)) = (a.natAbs : Int) := by
            rw [Int.fmod_eq_emod_of_nonneg _ (by omega)]
            exact Int.emod_eq_of_lt (by omega) (by omega)
          have st : eucB [some (.int a), some (.int b), some (.int a.natAbs), some (.int b.natAbs), some z, none] S = .next [some (.int a), some (.int b), some (.int b.natAbs), some (.int a.natAbs), some z, none] S := by
            unfold eucB
            simp only [sSeq_ap, sIf_ap, tVal_ap, eBin_ap, eVar_c, eVar_c0, eC_ap, R.bind, oEq_i, hb0, Bool.false_eq_true, if_false, sPass_ap, sPar_ap, eFn_ap, dCons_ap, dNil_ap, oInt_i, oMod_i (show (b.natAbs : Int) ≠ 0 by omega), hf, List.set]
          unfold forL
          simp only [gNm_ap, List.set]
          rw [st]
          dsimp only
          rw [Nat.gcd_comm]
          exact ho
        · obtain ⟨o, ho⟩ := euclid (S := S) 2000 (z :: zs) a.natAbs b.natAbs (some (.int a)) (some (.int b)) none none hge (by
            calc a.natAbs * b.natAbs < 2 ^ 1000 * 2 ^ 1000 := Nat.mul_lt_mul'' h1 h2
              _ = 2 ^ 2000 := by rw [← Nat.pow_add]) (by rw [q] at hl; omega)
          exact ⟨o, ho⟩
  obtain ⟨o, loop⟩ := loop
  unfold runBody lowD
  simp only [List.map_cons, List.map_nil, List.length_cons, List.length_nil, List.replicate, List.cons_append, List.nil_append]
  have hd : divOk ((Nat.gcd a.natAbs b.natAbs : Nat) : Int) = true := divOk_small (by omega) (by
    rw [Int.natAbs_natCast]
    exact Nat.lt_of_le_of_lt hle h2)
  have d0 : ∀ z : Int, divOk z = true → ∀ x : Int, oFdiv (.int x) (.int z) S = .ok (.int (x.fdiv z)) S := fun z h x => oFdiv_i h
  by_cases hs : 0 < b
  · have m1 : mulOk 1 a = true := mulOk_small (by decide) h1
    have m2 : mulOk 1 b = true := mulOk_small (by decide) h2
    have c : cofP a b = ((Nat.gcd a.natAbs b.natAbs : Nat) : Int) := if_neg (by omega)
    simp only [sSeq_ap, sPar_ap, eFn_ap, dCons_ap, dNil_ap, eVar_c0, eVar_c, R.bind, oAbs_i, List.set, loop, sSet_ap, eIf_ap, tVal_ap, eBin_ap, eC_ap, oGt_i, hs, decide_true, if_true, sRet_ap, eTup_ap, oRep_i m1, oRep_i m2, d0 _ hd, Int.one_mul, c]
  · have m1 : mulOk (-1) a = true := mulOk_small (by decide) h1
    have m2 : mulOk (-1) b = true := mulOk_small (by decide) h2
    have c : cofP a b = -((Nat.gcd a.natAbs b.natAbs : Nat) : Int) := if_pos (by omega)
    have f : ∀ x : Int, (-1 * x).fdiv ((Nat.gcd a.natAbs b.natAbs : Nat) : Int) = x.fdiv (-((Nat.gcd a.natAbs b.natAbs : Nat) : Int)) := fun x => by
      rw [← Int.neg_fdiv_neg, Int.neg_mul, Int.one_mul, Int.neg_neg]
    simp only [sSeq_ap, sPar_ap, eFn_ap, dCons_ap, dNil_ap, eVar_c0, eVar_c, R.bind, oAbs_i, List.set, loop, sSet_ap, eIf_ap, tVal_ap, eBin_ap, eC_ap, oGt_i, hs, decide_false, Bool.false_eq_true, if_false, eUn_ap, oNeg_i, sRet_ap, eTup_ap, oRep_i m1, oRep_i m2, d0 _ hd, f, c]
/-! the same -/
def sameT (anc : Anc) (F : Den) : DenS :=
  (sSeq (sIf (tVal (eUn oIsN (eVar 1)))
    (sRet (eUn oIsN (eVar 0)))
    sPass)
    (sSeq (sIf (tVal (eIsi anc [(.ty .bool), (.ty .str)] (eVar 1)))
    (sRet (eAnd (eBin oEq (eIsi anc [(.ty .bool)] (eVar 0)) (eIsi anc [(.ty .bool)] (eVar 1))) (eAnd (eIsi anc [(.ty .bool), (.ty .str)] (eVar 0)) (eBin oEq (eVar 0) (eVar 1)))))
    sPass)
    (sSeq (sIf (tVal (eIsi anc [(.ty .int)] (eVar 1)))
    (sRet (eAnd (eIsi anc [(.ty .int)] (eVar 0)) (eAnd (eNot (eIsi anc [(.ty .bool)] (eVar 0))) (eBin oEq (eVar 0) (eVar 1)))))
    sPass)
    (sSeq (sIf (tOr (tVal (eBin oNe (eIsi anc [(.ty .list)] (eVar 1)) (eIsi anc [(.ty .list)] (eVar 0)))) (tVal (eBin oNe (eIsi anc [(.ty .tuple)] (eVar 1)) (eIsi anc [(.ty .tuple)] (eVar 0)))))
    (sRet (eC (.bl false)))
    sPass)
    (sRet (eAnd (eBin oEq (eFn oLen (dCons (eVar 0) dNil)) (eFn oLen (dCons (eVar 1) dNil))) F))))))
noncomputable def sameD (anc : Anc) (Γ : Calls) (i : Nat) : DenS := sameT anc (eFn oAll (dCons (eLc [2] (dRng1 (eFn oLen (dCons (eVar 1) dNil))) (gNm 2) tYesD (eCall Γ i (dCons (eBin oIdx (eVar 0) (eVar 2)) (dCons (eBin oIdx (eVar 1) (eVar 2)) dNil)))) dNil))
@[simp] theorem isK_none_bool : isK anc (.ty .none) (.ty .bool) = false := rfl
@[simp] theorem isK_none_str : isK anc (.ty .none) (.ty .str) = false := rfl
@[simp] theorem isK_none_int : isK anc (.ty .none) (.ty .int) = false := rfl
@[simp] theorem isK_none_list : isK anc (.ty .none) (.ty .list) = false := rfl
@[simp] theorem isK_none_tuple : isK anc (.ty .none) (.ty .tuple) = false := rfl
@[simp] theorem isK_none_dict : isK anc (.ty .none) (.ty .dict) = false := rfl
@[simp] theorem isK_bool_bool : isK anc (.ty .bool) (.ty .bool) = true := rfl
@[simp] theorem isK_bool_str : isK anc (.ty .bool) (.ty .str) = false := rfl
@[simp] theorem isK_bool_int : isK anc (.ty .bool) (.ty .int) = true := rfl
@[simp] theorem isK_bool_list : isK anc (.ty .bool) (.ty .list) = false := rfl
@[simp] theorem isK_bool_tuple : isK anc (.ty .bool) (.ty .tuple) = false := rfl
@[simp] theorem isK_bool_dict : isK anc (.ty .bool) (.ty .dict) = false := rfl
@[simp] theorem isK_int_bool : isK anc (.ty .int) (.ty .bool) = false := rfl
@[simp] theorem isK_int_str : isK anc (.ty .int) (.ty .str) = false := rfl
@[simp] theorem isK_int_int : isK anc (.ty .int) (.ty .int) = true := rfl
@[simp] theorem isK_int_list : isK anc (.ty .int) (.ty .list) = false := rfl
@[simp] theorem isK_int_tuple : isK anc (.ty .int) (.ty .tuple) = false := rfl
@[simp] theorem isK_int_dict : isK anc (.ty .int) (.ty .dict) = false := rfl
@[simp] theorem isK_str_bool : isK anc (.ty .str) (.ty .bool) = false := rfl
@[simp] theorem isK_str_str : isK anc (.ty .str) (.ty .str) = true := rfl
@[simp] theorem isK_str_int : isK anc (.ty .str) (.ty .int) = false := rfl
@[simp] theorem isK_str_list : isK anc (.ty .str) (.ty .list) = false := rfl
@[simp] theorem isK_str_tuple : isK anc (.ty .str) (.ty .tuple) = false := rfl
@[simp] theorem isK_str_dict : isK anc (.ty .str) (.ty .dict) = false := rfl
@[simp] theorem isK_tuple_bool : isK anc (.ty .tuple) (.ty .bool) = false := rfl
@[simp] theorem isK_tuple_str : isK anc (.ty .tuple) (.ty .str) = false := rfl
@[simp] theorem isK_tuple_int : isK anc (.ty .tuple) (.ty .int) = false := rfl
@[simp] theorem isK_tuple_list : isK anc (.ty .tuple) (.ty .list) = false := rfl
@[simp] theorem isK_tuple_tuple : isK anc (.ty .tuple) (.ty .tuple) = true := rfl
@[simp] theorem isK_tuple_dict : isK anc (.ty .tuple) (.ty .dict) = false := rfl
@[simp] theorem isK_list_bool : isK anc (.ty .list) (.ty .bool) = false := rfl
@[simp] theorem isK_list_str : isK anc (.ty .list) (.ty .str) = false := rfl
@[simp] theorem isK_list_int : isK anc (.ty .list) (.ty .int) = false := rfl
@[simp] theorem isK_list_list : isK anc (.ty .list) (.ty .list) = true := rfl
@[simp] theorem isK_list_tuple : isK anc (.ty .list) (.ty .tuple) = false := rfl
@[simp] theorem isK_list_dict : isK anc (.ty .list) (.ty .dict) = false := rfl
@[simp] theorem isK_dict_bool : isK anc (.ty .dict) (.ty .bool) = false := rfl
@[simp] theorem isK_dict_str : isK anc (.ty .dict) (.ty .str) = false := rfl
@[simp] theorem isK_dict_int : isK anc (.ty .dict) (.ty .int) = false := rfl
@[simp] theorem isK_dict_list : isK anc (.ty .dict) (.ty .list) = false := rfl
@[simp] theorem isK_dict_tuple : isK anc (.ty .dict) (.ty .tuple) = false := rfl
@[simp] theorem isK_dict_dict : isK anc (.ty .dict) (.ty .dict) = true := rfl
theorem isi_ty {f : Den} {e : Env} {d : D} {k : Kd} {cs : List Cl} (hf : f e S = .ok d S) (hk : kdOf anc d S = some k) : eIsi anc cs f e S = .ok (.bl (cs.any (isK anc k))) S := by
  rw [eIsi_ap, hf]
  simp only [R.bind, hk, optR_some]
@[simp] theorem kd_non : kdOf anc .non S = some (.ty .none) := rfl
@[simp] theorem kd_bl {b : Bool} : kdOf anc (.bl b) S = some (.ty .bool) := rfl
@[simp] theorem kd_int {b : Int} : kdOf anc (.int b) S = some (.ty .int) := rfl
@[simp] theorem kd_str {b : Str} : kdOf anc (.str b) S = some (.ty .str) := rfl
@[simp] theorem kd_tup {b : List D} : kdOf anc (.tup b) S = some (.ty .tuple) := rfl
@[simp] theorem kd_lst {b : List D} : kdOf anc (.lst b) S = some (.ty .list) := rfl
theorem same_bl {b : Bool} : runBody (sameD anc Γ i) 3 [.bl b, .bl b] S = .ok (.bl true) S := by
  unfold runBody sameD sameT
  simp only [List.map_cons, List.map_nil, List.length_cons, List.length_nil, List.replicate, List.cons_append, List.nil_append]
  have e : oEq (.bl b) (.bl b) S = .ok (.bl true) S := by rw [oEq_b]; cases b <;> rfl
  simp [isNon, e]
theorem same_int {b : Int} : runBody (sameD anc Γ i) 3 [.int b, .int b] S = .ok (.bl true) S := by
  unfold runBody sameD sameT
  simp only [List.map_cons, List.map_nil, List.length_cons, List.length_nil, List.replicate, List.cons_append, List.nil_append]
  simp [isNon]
theorem same_non : runBody (sameD anc Γ i) 3 [.non, .non] S = .ok (.bl true) S := by
  unfold runBody sameD sameT
  simp only [List.map_cons, List.map_nil, List.length_cons, List.length_nil, List.replicate, List.cons_append, List.nil_append]
  simp [isNon]
theorem same_lc {xs : List D} {d : D} {e : Env} (hd : d = .lst xs ∨ d = .tup xs) (hG : ∀ x ∈ xs, ∀ S', Γ i [x, x] S' = .ok (.bl true) S') (hl : xs.length ≤ sizeLine) :
    eFn oAll (dCons (eLc [2] (dRng1 (eFn oLen (dCons (eVar 1) dNil))) (gNm 2) tYesD (eCall Γ i (dCons (eBin oIdx (eVar 0) (eVar 2)) (dCons (eBin oIdx (eVar 1) (eVar 2)) dNil)))) dNil) (some d :: some d :: none :: e) S = .ok (.bl true) S := by
  have hlen : oLen [d] S = .ok (.int xs.length) S := by rcases hd with rfl | rfl <;> rfl
  have hR : inR (xs.length : Int) = true := by
    have : sizeLine = 16777216 := by decide
    unfold inR
    simp
    omega
  have hn : (intsD 0 (xs.length : Int).toNat).length = xs.length := by unfold intsD; simp
  have h := eLc_pure (vs := [2]) (gi := dRng1 (eFn oLen (dCons (eVar 1) dNil))) (g := gNm 2) (f := eCall Γ i (dCons (eBin oIdx (eVar 0) (eVar 2)) (dCons (eBin oIdx (eVar 1) (eVar 2)) dNil))) (e := some d :: some d :: none :: e) (S := S) (xs := intsD 0 (xs.length : Int).toNat) (fun x => .bl true)
    (by unfold dRng1; simp only [eFn_ap, dCons_ap, eVar_c, eVar_c0, dNil_ap, R.bind, hlen, hR, if_true])
    (fun x hx S' => ⟨_, rfl, by
      unfold intsD at hx
      simp only [List.mem_map, List.mem_range] at hx
      obtain ⟨k, hk, rfl⟩ := hx
      have hk' : k < xs.length := by omega
      have e1 : oIdx d (.int (0 + (k : Int))) S' = .ok xs[k] S' := by
        rw [Int.zero_add]
        rcases hd with rfl | rfl
        · exact idx_lst (atI_nat hk')
        · rw [idx_tup, atI_nat hk']
      simp only [wipeE, List.set, eCall_ap, dCons_ap, eBin_ap, eVar_c, eVar_c0, dNil_ap, R.bind, e1]
      exact hG _ (List.getElem_mem hk') S'⟩) (fun _ _ => rfl) (by rw [hn]; exact hl)
  rw [eFn_ap, dCons_ap, h]
  have := oAll_map (xs := intsD 0 (xs.length : Int).toNat) (p := fun _ => true) (S := S)
  simp only [R.bind, dNil_ap]
  rw [this, List.all_eq_true.mpr (fun _ _ => rfl)]
theorem sameT_sq {F : Den} {xs : List D} {d : D} (hd : d = .lst xs ∨ d = .tup xs) (h : F [some d, some d, none] S = .ok (.bl true) S) : runBody (sameT anc F) 3 [d, d] S = .ok (.bl true) S := by
  unfold runBody sameT
  simp only [List.map_cons, List.map_nil, List.length_cons, List.length_nil, List.replicate, List.cons_append, List.nil_append]
  have hlen : oLen [d] S = .ok (.int xs.length) S := by rcases hd with rfl | rfl <;> rfl
  rcases hd with rfl | rfl <;>
  simp only [sSeq_ap, sIf_ap, tVal_ap, eUn_ap, oIsN_ap, eVar_c, eVar_c0, R.bind, isNon, Bool.false_eq_true, if_false, sPass_ap, eIsi_ap, kd_lst, kd_tup, optR_some, List.any_cons, List.any_nil, isK_list_bool, isK_list_str, isK_list_int, isK_list_list, isK_list_tuple, isK_tuple_bool, isK_tuple_str, isK_tuple_int, isK_tuple_list, isK_tuple_tuple, Bool.or_self, Bool.or_false, tOr_ap, eBin_ap, oNe_b, BEq.rfl, Bool.not_true, sRet_ap, eAnd_ap, eFn_ap, dCons_ap, dNil_ap, hlen, oEq_i, h]
theorem same_sq {xs : List D} {d : D} (hd : d = .lst xs ∨ d = .tup xs) (hG : ∀ x ∈ xs, ∀ S', Γ i [x, x] S' = .ok (.bl true) S') (hl : xs.length ≤ sizeLine) : runBody (sameD anc Γ i) 3 [d, d] S = .ok (.bl true) S :=
  sameT_sq hd (same_lc hd hG hl)
end
end Py

set_option maxHeartbeats 4000000
/-! PyS: a store that grows beside the pot. -/
namespace Py
open PySem (Str sizeLine)
/-- what was there stays, but for p -/
def Fr2 (S S' : Store) (p : Nat) : Prop := S.length ≤ S'.length ∧ ∀ k, k < S.length → k ≠ p → S'[k]? = S[k]?
theorem Fr2.refl {S : Store} {p : Nat} : Fr2 S S p := ⟨Nat.le_refl _, fun _ _ _ => rfl⟩
theorem Fr2.trans {S S1 S2 : Store} {p : Nat} (a : Fr2 S S1 p) (b : Fr2 S1 S2 p) : Fr2 S S2 p := ⟨Nat.le_trans a.1 b.1, fun k h1 h2 => (b.2 k (Nat.lt_of_lt_of_le h1 a.1) h2).trans (a.2 k h1 h2)⟩
theorem Fr1.to2 {S S1 : Store} {p : Nat} (a : Fr1 S S1 p) : Fr2 S S1 p := ⟨Nat.le_of_eq a.1.symm, fun k _ h => a.2 k h⟩
theorem Fr2.app {S T : Store} {p : Nat} : Fr2 S (S ++ T) p := ⟨by rw [List.length_append]; omega, fun k h _ => List.getElem?_append_left h⟩
theorem Fr2.set {S : Store} {p q : Nat} {o : O} (h : S.length ≤ q) {S1 : Store} (a : Fr2 S S1 p) : Fr2 S (S1.set q o) p := ⟨by rw [List.length_set]; exact a.1, fun k h1 h2 => by rw [List.getElem?_set_ne (by omega)]; exact a.2 k h1 h2⟩
theorem tidy_pot {S S' : Store} {p : Nat} {d : D} (hn : noRef d = true) (hp : p < S.length) (hP : Pot S' p) (hF : Fr2 S S' p) : ∃ S2, tidy S (.ok d S') = .ok d S2 ∧ Pot S2 p ∧ Fr2 S S2 p := by
  by_cases hl : S'.length ≤ S.length
  · exact ⟨S', tidy_ok hl, hP, hF⟩
  · simp only [tidy, if_neg hl, res_no hn]
    by_cases ho : Old S S'
    · rw [if_pos ho]
      have g : ∀ k, k < S.length → (S'.take S.length)[k]? = S'[k]? := fun k hk => by rw [List.getElem?_take, if_pos hk]
      refine ⟨_, rfl, hP.same (g p hp), ?_, fun k h1 h2 => (g k h1).trans (hF.2 k h1 h2)⟩
      rw [List.length_take]
      omega
    · rw [if_neg ho]
      exact ⟨S', rfl, hP, hF⟩
theorem dRng1_ok {f : Den} {e : Env} {S S1 : Store} {j : Int} (h : f e S = .ok (.int j) S1) (h0 : 0 ≤ j) (h1 : j ≤ 16777216) : dRng1 f e S = .ok (wkL (intsD 0 j.toNat), (intsD 0 j.toNat).length) S1 := by
  unfold dRng1
  rw [h]
  have hR : inR j = true := by
    unfold inR
    simp
    omega
  simp only [R.bind, hR, if_true]
theorem intsD_len {lo : Int} {n : Nat} : (intsD lo n).length = n := by unfold intsD; rw [List.length_map, List.length_range]
theorem intsD_at {lo : Int} {n i : Nat} {x : D} (h : (intsD lo n)[i]? = some x) : i < n ∧ x = .int (lo + i) := by
  unfold intsD at h
  rw [List.getElem?_map] at h
  cases q : (List.range n)[i]? with
  | none => rw [q] at h; cases h
  | some k =>
    rw [q] at h
    cases h
    have h1 := (List.getElem?_eq_some_iff.mp q)
    obtain ⟨h2, h3⟩ := h1
    rw [List.length_range] at h2
    rw [List.getElem_range] at h3
    subst h3
    exact ⟨h2, rfl⟩
end Py

set_option maxHeartbeats 4000000
namespace K03
open PySem PySem.Spec PyProof.Rows L2 Py
/-! the text of the row: its tops -/
def top (i : Nat) : Stmt := PySem.Challenge.pw_wholerates_k03_whole_polynomials_judged.main.body.getD i (.Pass ⟨0, 0, 0, 0⟩)
abbrev anc : Anc := [[0], [1, 0]]
abbrev csN : List Str := [(PySem.Str.ofString "WorthError"), (PySem.Str.ofString "InvalidPolynomial")]
abbrev ca (K : PySem.W.Frag) (c : Nat) : Addr := He.ga K (csN.getD c Str.empty)
/-! ### what each def does -/
/-- is_integer -/
noncomputable def d0 (Γ : Calls) : DenS :=
  (sRet (eAnd (eIsi anc [(.ty .int)] (eVar 0)) (eNot (eIsi anc [(.ty .bool)] (eVar 0)))))
abbrev N0 : List Str := [(PySem.Str.ofString "value")]
abbrev P0 : List Str := [(PySem.Str.ofString "value")]
/-- is_number -/
noncomputable def d1 (Γ : Calls) : DenS :=
  (sSeq (sIf (tOr (tNot (tVal (eIsi anc [(.ty .tuple)] (eVar 0)))) (tOr (tVal (eBin oNe (eFn oLen (dCons (eVar 0) dNil)) (eC (.int 2)))) (tNot (tVal (eFn oAll (dCons (eLc [1] (dSeq (eVar 0)) (gNm 1) tYesD (eCall Γ 0 (dCons (eVar 1) dNil))) dNil))))))
    (sRet (eC (.bl false)))
    sPass)
    (sRet (eAnd (eBin oGt (eBin oIdx (eVar 0) (eC (.int 1))) (eC (.int 0))) (eBin oEq (eFn oGcd (dCons (eBin oIdx (eVar 0) (eC (.int 0))) (dCons (eBin oIdx (eVar 0) (eC (.int 1))) dNil))) (eC (.int 1))))))
abbrev N1 : List Str := [(PySem.Str.ofString "told"), (PySem.Str.ofString "a")]
abbrev P1 : List Str := [(PySem.Str.ofString "told")]
/-- is_polynomial -/
noncomputable def d2 (Γ : Calls) : DenS :=
  (sSeq (sIf (tOr (tNot (tVal (eIsi anc [(.ty .tuple)] (eVar 0)))) (tNot (tVal (eFn oAll (dCons (eLc [1] (dSeq (eVar 0)) (gNm 1) tYesD (eCall Γ 0 (dCons (eVar 1) dNil))) dNil)))))
    (sRet (eC (.bl false)))
    sPass)
    (sRet (eOr (eBin oEq (eVar 0) (eTup dNil)) (eBin oNe (eBin oIdx (eVar 0) (eC (.int 0))) (eC (.int 0))))))
abbrev N2 : List Str := [(PySem.Str.ofString "told"), (PySem.Str.ofString "a")]
abbrev P2 : List Str := [(PySem.Str.ofString "told")]
/-- is_broken -/
noncomputable def d3 (Γ : Calls) : DenS :=
  (sSeq (sIf (tOr (tNot (tVal (eIsi anc [(.ty .tuple)] (eVar 0)))) (tNot (tVal (eFn oAll (dCons (eLc [1] (dSeq (eVar 0)) (gNm 1) tYesD (eCall Γ 1 (dCons (eVar 1) dNil))) dNil)))))
    (sRet (eC (.bl false)))
    sPass)
    (sRet (eOr (eBin oEq (eVar 0) (eTup dNil)) (eBin oNe (eBin oIdx (eVar 0) (eC (.int 0))) (eC (.tup [(.int 0), (.int 1)]))))))
abbrev N3 : List Str := [(PySem.Str.ofString "told"), (PySem.Str.ofString "a")]
abbrev P3 : List Str := [(PySem.Str.ofString "told")]
/-- check_polynomial -/
noncomputable def d4 (Γ : Calls) : DenS :=
  (sIf (tNot (tVal (eCall Γ 2 (dCons (eVar 0) dNil))))
    (sRaise 1 (eVar 0))
    sPass)
abbrev N4 : List Str := [(PySem.Str.ofString "f")]
abbrev P4 : List Str := [(PySem.Str.ofString "f")]
/-- degree -/
noncomputable def d5 (Γ : Calls) : DenS :=
  (sSeq (sExpr (eCall Γ 4 (dCons (eVar 0) dNil)))
    (sRet (eBin oSub (eFn oLen (dCons (eVar 0) dNil)) (eC (.int 1)))))
abbrev N5 : List Str := [(PySem.Str.ofString "f")]
abbrev P5 : List Str := [(PySem.Str.ofString "f")]
/-- _law_take -/
noncomputable def d6 (Γ : Calls) : DenS :=
  (sSeq (sIf (tAnd (tVal (eBin oEq (eBin oIdx (eVar 0) (eC (.int 0))) (eC (.int 0)))) (tVal (eBin oLt (eBin oIdx (eVar 0) (eC (.int 2))) (eFn oLen (dCons (eVar 0) dNil)))))
    (sSeq (sSet 2 (eBin oIdx (eVar 0) (eBin oIdx (eVar 0) (eC (.int 2)))))
    (sSeq (sExpr (eAugI (eVar 0) (eC (.int 2)) (fun i j => i + j) (eC (.int 1))))
    (sIf (tVal (eBin oGe (eVar 2) (eBin oPow (eC (.int 10)) (eC (.int 18)))))
    (sExpr (eSetI (eBin oSub (eVar 2) (eBin oPow (eC (.int 10)) (eC (.int 18)))) (eVar 0) (eC (.int 0))))
    (sSeq (sSet 3 (eBin oMod (eFn oInt (dCons (eVar 2) dNil)) (eC (.int 2147483647))))
    (sSeq (sSet 3 (eBin oMod (eFn oInt (dCons (eBin oCat (eBin oCat (eBin oRep (eVar 3) (eVar 3)) (eBin oRep (eC (.int 69621)) (eVar 3))) (eBin oRep (eC (.int 977)) (eBin oIdx (eVar 0) (eC (.int 2))))) dNil)) (eC (.int 2147483629))))
    (sExpr (eSetI (eBin oMod (eFn oInt (dCons (eBin oCat (eBin oIdx (eVar 0) (eC (.int 1))) (eVar 3)) dNil)) (eC (.int 2147483629))) (eVar 0) (eC (.int 1)))))))))
    sPass)
    (sSeq (sIf (tVal (eBin oGt (eBin oIdx (eVar 0) (eC (.int 0))) (eC (.int 0))))
    (sSeq (sSet 4 (eBin oMod (eFn oInt (dCons (eBin oIdx (eVar 0) (eC (.int 0))) dNil)) (eVar 1)))
    (sSeq (sExpr (eSetI (eBin oFdiv (eBin oIdx (eVar 0) (eC (.int 0))) (eVar 1)) (eVar 0) (eC (.int 0))))
    (sRet (eVar 4))))
    sPass)
    (sSeq (sExpr (eSetI (eBin oMod (eFn oInt (dCons (eBin oCat (eBin oCat (eBin oRep (eBin oIdx (eVar 0) (eC (.int 1))) (eC (.int 48271))) (eBin oRep (eC (.int 40692)) (eBin oIdx (eVar 0) (eC (.int 2))))) (eC (.int 11))) dNil)) (eC (.int 2147483647))) (eVar 0) (eC (.int 1))))
    (sSeq (sExpr (eSetI (eBin oMod (eFn oInt (dCons (eBin oCat (eBin oRep (eBin oIdx (eVar 0) (eC (.int 1))) (eBin oIdx (eVar 0) (eC (.int 1)))) (eC (.int 7))) dNil)) (eC (.int 2147483629))) (eVar 0) (eC (.int 1))))
    (sRet (eBin oMod (eFn oInt (dCons (eBin oFdiv (eBin oIdx (eVar 0) (eC (.int 1))) (eC (.int 8))) dNil)) (eVar 1)))))))
abbrev N6 : List Str := [(PySem.Str.ofString "pot"), (PySem.Str.ofString "many"), (PySem.Str.ofString "cell"), (PySem.Str.ofString "mixed"), (PySem.Str.ofString "drawn_now")]
abbrev P6 : List Str := [(PySem.Str.ofString "pot"), (PySem.Str.ofString "many")]
/-- _law_same -/
noncomputable def d7 (Γ : Calls) : DenS :=
  (sSeq (sIf (tVal (eUn oIsN (eVar 1)))
    (sRet (eUn oIsN (eVar 0)))
    sPass)
    (sSeq (sIf (tVal (eIsi anc [(.ty .bool), (.ty .str)] (eVar 1)))
    (sRet (eAnd (eBin oEq (eIsi anc [(.ty .bool)] (eVar 0)) (eIsi anc [(.ty .bool)] (eVar 1))) (eAnd (eIsi anc [(.ty .bool), (.ty .str)] (eVar 0)) (eBin oEq (eVar 0) (eVar 1)))))
    sPass)
    (sSeq (sIf (tVal (eIsi anc [(.ty .int)] (eVar 1)))
    (sRet (eAnd (eIsi anc [(.ty .int)] (eVar 0)) (eAnd (eNot (eIsi anc [(.ty .bool)] (eVar 0))) (eBin oEq (eVar 0) (eVar 1)))))
    sPass)
    (sSeq (sIf (tOr (tVal (eBin oNe (eIsi anc [(.ty .list)] (eVar 1)) (eIsi anc [(.ty .list)] (eVar 0)))) (tVal (eBin oNe (eIsi anc [(.ty .tuple)] (eVar 1)) (eIsi anc [(.ty .tuple)] (eVar 0)))))
    (sRet (eC (.bl false)))
    sPass)
    (sRet (eAnd (eBin oEq (eFn oLen (dCons (eVar 0) dNil)) (eFn oLen (dCons (eVar 1) dNil))) (eFn oAll (dCons (eLc [2] (dRng1 (eFn oLen (dCons (eVar 1) dNil))) (gNm 2) tYesD (eCall Γ 7 (dCons (eBin oIdx (eVar 0) (eVar 2)) (dCons (eBin oIdx (eVar 1) (eVar 2)) dNil)))) dNil))))))))
abbrev N7 : List Str := [(PySem.Str.ofString "got"), (PySem.Str.ofString "due"), (PySem.Str.ofString "k")]
abbrev P7 : List Str := [(PySem.Str.ofString "got"), (PySem.Str.ofString "due")]
/-- _law_low -/
noncomputable def d8 (Γ : Calls) : DenS :=
  (sSeq (sPar 2 3 (eFn oAbs (dCons (eVar 0) dNil)) (eFn oAbs (dCons (eVar 1) dNil)))
    (sSeq (sFor (gNm 4) (dRng1 (eC (.int 100000)))
    (sSeq (sIf (tVal (eBin oEq (eVar 3) (eC (.int 0))))
    sBrk
    sPass)
    (sPar 2 3 (eVar 3) (eBin oMod (eFn oInt (dCons (eVar 2) dNil)) (eVar 3)))))
    (sSeq (sSet 5 (eIf (tVal (eBin oGt (eVar 1) (eC (.int 0)))) (eC (.int 1)) (eUn oNeg (eC (.int 1)))))
    (sRet (eTup (dCons (eBin oFdiv (eBin oRep (eVar 5) (eVar 0)) (eVar 2)) (dCons (eBin oFdiv (eBin oRep (eVar 5) (eVar 1)) (eVar 2)) dNil)))))))
abbrev N8 : List Str := [(PySem.Str.ofString "top"), (PySem.Str.ofString "bottom"), (PySem.Str.ofString "one"), (PySem.Str.ofString "other"), (PySem.Str.ofString "turn"), (PySem.Str.ofString "sign")]
abbrev P8 : List Str := [(PySem.Str.ofString "top"), (PySem.Str.ofString "bottom")]
/-- _law_plus -/
noncomputable def d9 (Γ : Calls) : DenS :=
  (sRet (eCall Γ 8 (dCons (eBin oCat (eBin oRep (eBin oIdx (eVar 0) (eC (.int 0))) (eBin oIdx (eVar 1) (eC (.int 1)))) (eBin oRep (eBin oIdx (eVar 1) (eC (.int 0))) (eBin oIdx (eVar 0) (eC (.int 1))))) (dCons (eBin oRep (eBin oIdx (eVar 0) (eC (.int 1))) (eBin oIdx (eVar 1) (eC (.int 1)))) dNil))))
abbrev N9 : List Str := [(PySem.Str.ofString "a"), (PySem.Str.ofString "b")]
abbrev P9 : List Str := [(PySem.Str.ofString "a"), (PySem.Str.ofString "b")]
/-- _law_times -/
noncomputable def d10 (Γ : Calls) : DenS :=
  (sRet (eCall Γ 8 (dCons (eBin oRep (eBin oIdx (eVar 0) (eC (.int 0))) (eBin oIdx (eVar 1) (eC (.int 0)))) (dCons (eBin oRep (eBin oIdx (eVar 0) (eC (.int 1))) (eBin oIdx (eVar 1) (eC (.int 1)))) dNil))))
abbrev N10 : List Str := [(PySem.Str.ofString "a"), (PySem.Str.ofString "b")]
abbrev P10 : List Str := [(PySem.Str.ofString "a"), (PySem.Str.ofString "b")]
/-- _law_dot -/
noncomputable def d11 (Γ : Calls) : DenS :=
  (sSeq (sSet 2 (eTup (dCons (eC (.int 0)) (dCons (eC (.int 1)) dNil))))
    (sSeq (sFor (gTup ((gNm 3) :: ((gNm 4) :: []))) (dZip2 (eVar 0) (eVar 1))
    (sIf (tAnd (tVal (eBin oNe (eBin oIdx (eVar 3) (eC (.int 0))) (eC (.int 0)))) (tVal (eBin oNe (eBin oIdx (eVar 4) (eC (.int 0))) (eC (.int 0)))))
    (sSet 2 (eCall Γ 9 (dCons (eVar 2) (dCons (eCall Γ 10 (dCons (eVar 3) (dCons (eVar 4) dNil))) dNil))))
    sPass))
    (sRet (eVar 2))))
abbrev N11 : List Str := [(PySem.Str.ofString "one"), (PySem.Str.ofString "other"), (PySem.Str.ofString "total"), (PySem.Str.ofString "a"), (PySem.Str.ofString "b")]
abbrev P11 : List Str := [(PySem.Str.ofString "one"), (PySem.Str.ofString "other")]
/-- _law_is_integer -/
noncomputable def d12 (Γ : Calls) : DenS :=
  (sRet (eAnd (eIsi anc [(.ty .int)] (eVar 0)) (eNot (eIsi anc [(.ty .bool)] (eVar 0)))))
abbrev N12 : List Str := [(PySem.Str.ofString "told")]
abbrev P12 : List Str := [(PySem.Str.ofString "told")]
/-- _law_is_number -/
noncomputable def d13 (Γ : Calls) : DenS :=
  (sSeq (sIf (tOr (tNot (tVal (eIsi anc [(.ty .tuple)] (eVar 0)))) (tOr (tVal (eBin oNe (eFn oLen (dCons (eVar 0) dNil)) (eC (.int 2)))) (tNot (tVal (eFn oAll (dCons (eLc [1] (dSeq (eVar 0)) (gNm 1) tYesD (eCall Γ 12 (dCons (eVar 1) dNil))) dNil))))))
    (sRet (eC (.bl false)))
    sPass)
    (sRet (eAnd (eBin oGt (eBin oIdx (eVar 0) (eC (.int 1))) (eC (.int 0))) (eBin oEq (eCall Γ 8 (dCons (eBin oIdx (eVar 0) (eC (.int 0))) (dCons (eBin oIdx (eVar 0) (eC (.int 1))) dNil))) (eVar 0)))))
abbrev N13 : List Str := [(PySem.Str.ofString "told"), (PySem.Str.ofString "a")]
abbrev P13 : List Str := [(PySem.Str.ofString "told")]
/-- _law_is_polynomial -/
noncomputable def d14 (Γ : Calls) : DenS :=
  (sSeq (sIf (tOr (tNot (tVal (eIsi anc [(.ty .tuple)] (eVar 0)))) (tNot (tVal (eFn oAll (dCons (eLc [1] (dSeq (eVar 0)) (gNm 1) tYesD (eCall Γ 12 (dCons (eVar 1) dNil))) dNil)))))
    (sRet (eC (.bl false)))
    sPass)
    (sRet (eOr (eBin oEq (eFn oLen (dCons (eVar 0) dNil)) (eC (.int 0))) (eBin oNe (eBin oIdx (eVar 0) (eC (.int 0))) (eC (.int 0))))))
abbrev N14 : List Str := [(PySem.Str.ofString "told"), (PySem.Str.ofString "a")]
abbrev P14 : List Str := [(PySem.Str.ofString "told")]
/-- _law_is_broken -/
noncomputable def d15 (Γ : Calls) : DenS :=
  (sSeq (sIf (tOr (tNot (tVal (eIsi anc [(.ty .tuple)] (eVar 0)))) (tNot (tVal (eFn oAll (dCons (eLc [1] (dSeq (eVar 0)) (gNm 1) tYesD (eCall Γ 13 (dCons (eVar 1) dNil))) dNil)))))
    (sRet (eC (.bl false)))
    sPass)
    (sRet (eOr (eBin oEq (eFn oLen (dCons (eVar 0) dNil)) (eC (.int 0))) (eBin oNe (eBin oIdx (eBin oIdx (eVar 0) (eC (.int 0))) (eC (.int 0))) (eC (.int 0))))))
abbrev N15 : List Str := [(PySem.Str.ofString "told"), (PySem.Str.ofString "a")]
abbrev P15 : List Str := [(PySem.Str.ofString "told")]
/-- _law_integer -/
noncomputable def d16 (Γ : Calls) : DenS :=
  (sSeq (sSet 1 (eBin oIdx (eLst (dCons (eC (.int 2)) (dCons (eC (.int 20)) (dCons (eBin oPow (eC (.int 10)) (eC (.int 30))) dNil)))) (eCall Γ 6 (dCons (eVar 0) (dCons (eC (.int 3)) dNil)))))
    (sRet (eBin oSub (eCall Γ 6 (dCons (eVar 0) (dCons (eBin oCat (eBin oRep (eC (.int 2)) (eVar 1)) (eC (.int 1))) dNil))) (eVar 1))))
abbrev N16 : List Str := [(PySem.Str.ofString "pot"), (PySem.Str.ofString "far")]
abbrev P16 : List Str := [(PySem.Str.ofString "pot")]
/-- _law_row -/
noncomputable def d17 (Γ : Calls) : DenS :=
  (sSeq (sSet 2 (eNew dNil))
    (sSeq (sFor (gNm 3) (dRng1 (eCall Γ 6 (dCons (eVar 0) (dCons (eC (.int 14)) dNil))))
    (sSeq (sSet 4 (eCall Γ 16 (dCons (eVar 0) dNil)))
    (sSeq (sSet 4 (eIf (tOr (tVal (eBin oGt (eVar 3) (eC (.int 0)))) (tVal (eBin oNe (eVar 4) (eC (.int 0))))) (eVar 4) (eC (.int 1))))
    (sExpr (eApp (rcv (eVar 2)) (eIf (tVal (eVar 1)) (eVar 4) (eCall Γ 8 (dCons (eVar 4) (dCons (eBin oCat (eC (.int 1)) (eFn oAbs (dCons (eCall Γ 16 (dCons (eVar 0) dNil)) dNil))) dNil)))))))))
    (sRet (eFn oTuple (dCons (eVar 2) dNil)))))
abbrev N17 : List Str := [(PySem.Str.ofString "pot"), (PySem.Str.ofString "whole_ones"), (PySem.Str.ofString "row"), (PySem.Str.ofString "k"), (PySem.Str.ofString "top")]
abbrev P17 : List Str := [(PySem.Str.ofString "pot"), (PySem.Str.ofString "whole_ones")]
/-- _law_bent -/
noncomputable def d18 (Γ : Calls) : DenS :=
  (sSeq (sSet 2 (eNew (dCons (eC .non) (dCons (eC (.bl true)) (dCons (eC (.bl false)) (dCons (eC (.str (PySem.Str.ofString "1"))) (dCons (eTup (dCons (eC (.int 1)) dNil)) (dCons (eLst (dCons (eC (.int 1)) dNil)) (dCons (eTup (dCons (eC (.int 1)) (dCons (eC (.int 2)) dNil))) (dCons (eTup (dCons (eC (.int 0)) (dCons (eC (.int 1)) dNil))) (dCons (eTup (dCons (eC (.int 2)) (dCons (eC (.int 4)) dNil))) (dCons (eTup (dCons (eC (.int 1)) (dCons (eUn oNeg (eC (.int 2))) dNil))) (dCons (eTup (dCons (eC (.int 0)) (dCons (eC (.int 0)) dNil))) (dCons (eTup (dCons (eC (.int 1)) (dCons (eC (.int 0)) dNil))) (dCons (eC (.int 0)) (dCons (eC (.int 3)) (dCons (eTup (dCons (eTup (dCons (eC (.int 1)) (dCons (eC (.int 2)) dNil))) dNil)) dNil)))))))))))))))))
    (sSeq (sExpr (eApp (rcv (eVar 2)) (eTup (dCons (eC (.bl true)) (dCons (eC (.int 1)) dNil)))))
    (sSeq (sSet 3 (eCall Γ 6 (dCons (eVar 0) (dCons (eC (.int 6)) dNil))))
    (sSeq (sIf (tAnd (tVal (eBin oLt (eVar 3) (eC (.int 3)))) (tVal (eBin oNe (eVar 1) (eTup dNil))))
    (sSeq (sSet 4 (eCall Γ 6 (dCons (eVar 0) (dCons (eFn oLen (dCons (eVar 1) dNil)) dNil))))
    (sRet (eBin oCat (eBin oCat (eSl (eVar 1) oNo (oPart (eVar 4))) (eTup (dCons (eBin oIdx (eVar 2) (eCall Γ 6 (dCons (eVar 0) (dCons (eC (.int 16)) dNil)))) dNil))) (eSl (eVar 1) (oPart (eBin oCat (eVar 4) (eC (.int 1)))) oNo))))
    sPass)
    (sSeq (sIf (tVal (eBin oEq (eVar 3) (eC (.int 3))))
    (sRet (eBin oCat (eTup (dCons (eBin oIdx (eVar 2) (eCall Γ 6 (dCons (eVar 0) (dCons (eC (.int 16)) dNil)))) dNil)) (eVar 1)))
    sPass)
    (sSeq (sSet 5 (eLst (dCons (eLst (dFn oList (dCons (eVar 1) dNil))) (dCons (eBin oCat (eTup (dCons (eC (.int 0)) dNil)) (eVar 1)) (dCons (eBin oCat (eTup (dCons (eTup (dCons (eC (.int 0)) (dCons (eC (.int 1)) dNil))) dNil)) (eVar 1)) (dCons (eC .non) (dCons (eC (.str (PySem.Str.ofString "1 0"))) (dCons (eC (.int 0)) (dCons (eTup (dCons (eVar 1) dNil)) (dCons (eLst dNil) (dCons (eC (.str (PySem.Str.ofString ""))) (dCons (eC (.dct [] [])) (dCons (eBin oCat (eVar 1) (eTup (dCons (eC .non) dNil))) dNil)))))))))))))
    (sRet (eBin oIdx (eVar 5) (eCall Γ 6 (dCons (eVar 0) (dCons (eC (.int 11)) dNil)))))))))))
abbrev N18 : List Str := [(PySem.Str.ofString "pot"), (PySem.Str.ofString "row"), (PySem.Str.ofString "odd"), (PySem.Str.ofString "way"), (PySem.Str.ofString "k"), (PySem.Str.ofString "some")]
abbrev P18 : List Str := [(PySem.Str.ofString "pot"), (PySem.Str.ofString "row")]
/-- law -/
noncomputable def d19 (Γ : Calls) : DenS :=
  (sSeq (sSet 1 (eNew (dCat (eLst (dCons (eC (.int 0)) (dCons (eC (.int 7)) (dCons (eC (.int 3)) dNil)))) (eLst (dFn oList (dCons (eVar 0) dNil))))))
    (sSeq (sFor (gNm 2) (dRng1 (eC (.int 6)))
    (sSeq (sPar 3 4 (eCall Γ 17 (dCons (eVar 1) (dCons (eC (.bl true)) dNil))) (eCall Γ 17 (dCons (eVar 1) (dCons (eC (.bl false)) dNil))))
    (sSeq (sSet 5 (eLst (dCons (eCall Γ 2 (dCons (eVar 3) dNil)) (dCons (eCallP Γ 2 [0] dNil (dCons (eVar 3) dNil)) dNil))))
    (sSeq (sSet 5 (eBin oCat (eVar 5) (eLst (dCons (eCall Γ 3 (dCons (eVar 4) dNil)) (dCons (eCallP Γ 3 [0] dNil (dCons (eVar 4) dNil)) dNil)))))
    (sSeq (sIf (tNot (tVal (eCall Γ 7 (dCons (eVar 5) (dCons (eBin oRep (eLst (dCons (eC (.bl true)) dNil)) (eC (.int 4))) dNil)))))
    (sRet (eC (.bl false)))
    sPass)
    (sSeq (sSet 6 (eBin oSub (eFn oLen (dCons (eVar 3) dNil)) (eC (.int 1))))
    (sSeq (sIf (tNot (tVal (eCall Γ 7 (dCons (eLst (dCons (eCall Γ 5 (dCons (eVar 3) dNil)) (dCons (eCallP Γ 5 [0] dNil (dCons (eVar 3) dNil)) dNil))) (dCons (eLst (dCons (eVar 6) (dCons (eVar 6) dNil))) dNil)))))
    (sRet (eC (.bl false)))
    sPass)
    (sFor (gNm 7) (dRng1 (eC (.int 8)))
    (sSeq (sSet 8 (eCall Γ 18 (dCons (eVar 1) (dCons (eBin oIdx (eLst (dCons (eVar 3) (dCons (eVar 4) dNil))) (eCall Γ 6 (dCons (eVar 1) (dCons (eC (.int 2)) dNil)))) dNil))))
    (sSeq (sSet 9 (eLst (dCons (eCall Γ 14 (dCons (eVar 8) dNil)) (dCons (eCall Γ 15 (dCons (eVar 8) dNil)) dNil))))
    (sIf (tNot (tVal (eCall Γ 7 (dCons (eLst (dCons (eCall Γ 2 (dCons (eVar 8) dNil)) (dCons (eCall Γ 3 (dCons (eVar 8) dNil)) dNil))) (dCons (eVar 9) dNil)))))
    (sRet (eC (.bl false)))
    sPass)))))))))))
    (sRet (eC (.bl true)))))
abbrev N19 : List Str := [(PySem.Str.ofString "script"), (PySem.Str.ofString "pot"), (PySem.Str.ofString "turn"), (PySem.Str.ofString "whole_now"), (PySem.Str.ofString "broken_now"), (PySem.Str.ofString "told"), (PySem.Str.ofString "far"), (PySem.Str.ofString "bend"), (PySem.Str.ofString "bent"), (PySem.Str.ofString "due")]
abbrev P19 : List Str := [(PySem.Str.ofString "script")]
/-! ### what is called -/
noncomputable def calls : Nat → Calls
  | 0 => fun _ _ _ => .bad
  | n + 1 => fun i => match i with
    | 0 => runTidy (d0 (calls n)) 1
    | 1 => runTidy (d1 (calls n)) 2
    | 2 => runTidy (d2 (calls n)) 2
    | 3 => runTidy (d3 (calls n)) 2
    | 4 => runTidy (d4 (calls n)) 1
    | 5 => runTidy (d5 (calls n)) 1
    | 6 => runTidy (d6 (calls n)) 5
    | 7 => runTidy (d7 (calls n)) 3
    | 8 => runTidy (d8 (calls n)) 6
    | 9 => runTidy (d9 (calls n)) 2
    | 10 => runTidy (d10 (calls n)) 2
    | 11 => runTidy (d11 (calls n)) 5
    | 12 => runTidy (d12 (calls n)) 1
    | 13 => runTidy (d13 (calls n)) 2
    | 14 => runTidy (d14 (calls n)) 2
    | 15 => runTidy (d15 (calls n)) 2
    | 16 => runTidy (d16 (calls n)) 2
    | 17 => runTidy (d17 (calls n)) 5
    | 18 => runTidy (d18 (calls n)) 6
    | 19 => runTidy (d19 (calls n)) 10
    | _ => fun _ _ => .bad
/-! ### what the written part says -/
structure Ctx (K : PySem.W.Frag) (mg : Str → Option Value) where
  C : ClsOk K (ca K) anc
  fI : Addr
  fdI : FuncData
  ex : ∀ c, c < anc.length → ExcT K (ca K c) fI
  tI : PySem.W.typeIn K (.ref fI) = some (.type "function")
  FI : FunD K "__init__" "WorthError.__init__" (defArgs (clsM (top 2))) (defBody (clsM (top 2))) (defScope (clsM (top 2))) [] [] fI fdI
  fd0 : FuncData
  F0 : FunD K (PySem.Str.ofString "is_integer") (PySem.Str.ofString "is_integer") (defArgs (top 6)) (defBody (top 6)) (defScope (top 6)) [] [] (He.ga K (PySem.Str.ofString "is_integer")) fd0
  g_is_integer : mg (PySem.Str.ofString "is_integer") = some (.ref (He.ga K (PySem.Str.ofString "is_integer")))
  fd1 : FuncData
  F1 : FunD K (PySem.Str.ofString "is_number") (PySem.Str.ofString "is_number") (defArgs (top 7)) (defBody (top 7)) (defScope (top 7)) [] [] (He.ga K (PySem.Str.ofString "is_number")) fd1
  g_is_number : mg (PySem.Str.ofString "is_number") = some (.ref (He.ga K (PySem.Str.ofString "is_number")))
  fd2 : FuncData
  F2 : FunD K (PySem.Str.ofString "is_polynomial") (PySem.Str.ofString "is_polynomial") (defArgs (top 9)) (defBody (top 9)) (defScope (top 9)) [] [] (He.ga K (PySem.Str.ofString "is_polynomial")) fd2
  g_is_polynomial : mg (PySem.Str.ofString "is_polynomial") = some (.ref (He.ga K (PySem.Str.ofString "is_polynomial")))
  fd3 : FuncData
  F3 : FunD K (PySem.Str.ofString "is_broken") (PySem.Str.ofString "is_broken") (defArgs (top 10)) (defBody (top 10)) (defScope (top 10)) [] [] (He.ga K (PySem.Str.ofString "is_broken")) fd3
  g_is_broken : mg (PySem.Str.ofString "is_broken") = some (.ref (He.ga K (PySem.Str.ofString "is_broken")))
  fd4 : FuncData
  F4 : FunD K (PySem.Str.ofString "check_polynomial") (PySem.Str.ofString "check_polynomial") (defArgs (top 11)) (defBody (top 11)) (defScope (top 11)) [] [] (He.ga K (PySem.Str.ofString "check_polynomial")) fd4
  g_check_polynomial : mg (PySem.Str.ofString "check_polynomial") = some (.ref (He.ga K (PySem.Str.ofString "check_polynomial")))
  fd5 : FuncData
  F5 : FunD K (PySem.Str.ofString "degree") (PySem.Str.ofString "degree") (defArgs (top 12)) (defBody (top 12)) (defScope (top 12)) [] [] (He.ga K (PySem.Str.ofString "degree")) fd5
  g_degree : mg (PySem.Str.ofString "degree") = some (.ref (He.ga K (PySem.Str.ofString "degree")))
  fd6 : FuncData
  F6 : FunD K (PySem.Str.ofString "_law_take") (PySem.Str.ofString "_law_take") (defArgs (top 14)) (defBody (top 14)) (defScope (top 14)) [] [] (He.ga K (PySem.Str.ofString "_law_take")) fd6
  g__law_take : mg (PySem.Str.ofString "_law_take") = some (.ref (He.ga K (PySem.Str.ofString "_law_take")))
  fd7 : FuncData
  F7 : FunD K (PySem.Str.ofString "_law_same") (PySem.Str.ofString "_law_same") (defArgs (top 15)) (defBody (top 15)) (defScope (top 15)) [] [] (He.ga K (PySem.Str.ofString "_law_same")) fd7
  g__law_same : mg (PySem.Str.ofString "_law_same") = some (.ref (He.ga K (PySem.Str.ofString "_law_same")))
  fd8 : FuncData
  F8 : FunD K (PySem.Str.ofString "_law_low") (PySem.Str.ofString "_law_low") (defArgs (top 16)) (defBody (top 16)) (defScope (top 16)) [] [] (He.ga K (PySem.Str.ofString "_law_low")) fd8
  g__law_low : mg (PySem.Str.ofString "_law_low") = some (.ref (He.ga K (PySem.Str.ofString "_law_low")))
  fd9 : FuncData
  F9 : FunD K (PySem.Str.ofString "_law_plus") (PySem.Str.ofString "_law_plus") (defArgs (top 17)) (defBody (top 17)) (defScope (top 17)) [] [] (He.ga K (PySem.Str.ofString "_law_plus")) fd9
  g__law_plus : mg (PySem.Str.ofString "_law_plus") = some (.ref (He.ga K (PySem.Str.ofString "_law_plus")))
  fd10 : FuncData
  F10 : FunD K (PySem.Str.ofString "_law_times") (PySem.Str.ofString "_law_times") (defArgs (top 18)) (defBody (top 18)) (defScope (top 18)) [] [] (He.ga K (PySem.Str.ofString "_law_times")) fd10
  g__law_times : mg (PySem.Str.ofString "_law_times") = some (.ref (He.ga K (PySem.Str.ofString "_law_times")))
  fd11 : FuncData
  F11 : FunD K (PySem.Str.ofString "_law_dot") (PySem.Str.ofString "_law_dot") (defArgs (top 19)) (defBody (top 19)) (defScope (top 19)) [] [] (He.ga K (PySem.Str.ofString "_law_dot")) fd11
  g__law_dot : mg (PySem.Str.ofString "_law_dot") = some (.ref (He.ga K (PySem.Str.ofString "_law_dot")))
  fd12 : FuncData
  F12 : FunD K (PySem.Str.ofString "_law_is_integer") (PySem.Str.ofString "_law_is_integer") (defArgs (top 20)) (defBody (top 20)) (defScope (top 20)) [] [] (He.ga K (PySem.Str.ofString "_law_is_integer")) fd12
  g__law_is_integer : mg (PySem.Str.ofString "_law_is_integer") = some (.ref (He.ga K (PySem.Str.ofString "_law_is_integer")))
  fd13 : FuncData
  F13 : FunD K (PySem.Str.ofString "_law_is_number") (PySem.Str.ofString "_law_is_number") (defArgs (top 21)) (defBody (top 21)) (defScope (top 21)) [] [] (He.ga K (PySem.Str.ofString "_law_is_number")) fd13
  g__law_is_number : mg (PySem.Str.ofString "_law_is_number") = some (.ref (He.ga K (PySem.Str.ofString "_law_is_number")))
  fd14 : FuncData
  F14 : FunD K (PySem.Str.ofString "_law_is_polynomial") (PySem.Str.ofString "_law_is_polynomial") (defArgs (top 22)) (defBody (top 22)) (defScope (top 22)) [] [] (He.ga K (PySem.Str.ofString "_law_is_polynomial")) fd14
  g__law_is_polynomial : mg (PySem.Str.ofString "_law_is_polynomial") = some (.ref (He.ga K (PySem.Str.ofString "_law_is_polynomial")))
  fd15 : FuncData
  F15 : FunD K (PySem.Str.ofString "_law_is_broken") (PySem.Str.ofString "_law_is_broken") (defArgs (top 23)) (defBody (top 23)) (defScope (top 23)) [] [] (He.ga K (PySem.Str.ofString "_law_is_broken")) fd15
  g__law_is_broken : mg (PySem.Str.ofString "_law_is_broken") = some (.ref (He.ga K (PySem.Str.ofString "_law_is_broken")))
  fd16 : FuncData
  F16 : FunD K (PySem.Str.ofString "_law_integer") (PySem.Str.ofString "_law_integer") (defArgs (top 24)) (defBody (top 24)) (defScope (top 24)) [] [] (He.ga K (PySem.Str.ofString "_law_integer")) fd16
  g__law_integer : mg (PySem.Str.ofString "_law_integer") = some (.ref (He.ga K (PySem.Str.ofString "_law_integer")))
  fd17 : FuncData
  F17 : FunD K (PySem.Str.ofString "_law_row") (PySem.Str.ofString "_law_row") (defArgs (top 25)) (defBody (top 25)) (defScope (top 25)) [] [] (He.ga K (PySem.Str.ofString "_law_row")) fd17
  g__law_row : mg (PySem.Str.ofString "_law_row") = some (.ref (He.ga K (PySem.Str.ofString "_law_row")))
  fd18 : FuncData
  F18 : FunD K (PySem.Str.ofString "_law_bent") (PySem.Str.ofString "_law_bent") (defArgs (top 26)) (defBody (top 26)) (defScope (top 26)) [] [] (He.ga K (PySem.Str.ofString "_law_bent")) fd18
  g__law_bent : mg (PySem.Str.ofString "_law_bent") = some (.ref (He.ga K (PySem.Str.ofString "_law_bent")))
  fd19 : FuncData
  F19 : FunD K (PySem.Str.ofString "law") (PySem.Str.ofString "law") (defArgs (top 27)) (defBody (top 27)) (defScope (top 27)) [] [] (He.ga K (PySem.Str.ofString "law")) fd19
  g_law : mg (PySem.Str.ofString "law") = some (.ref (He.ga K (PySem.Str.ofString "law")))
  g_WorthError : mg (PySem.Str.ofString "WorthError") = some (.ref (ca K 0))
  g_InvalidPolynomial : mg (PySem.Str.ofString "InvalidPolynomial") = some (.ref (ca K 1))
  i_gcd : mg (PySem.Str.ofString "gcd") = some (.builtin "math.gcd")
  b_ValueError : mg (PySem.Str.ofString "ValueError") = none
  b_abs : mg (PySem.Str.ofString "abs") = none
  b_all : mg (PySem.Str.ofString "all") = none
  b_bool : mg (PySem.Str.ofString "bool") = none
  b_int : mg (PySem.Str.ofString "int") = none
  b_isinstance : mg (PySem.Str.ofString "isinstance") = none
  b_len : mg (PySem.Str.ofString "len") = none
  b_list : mg (PySem.Str.ofString "list") = none
  b_range : mg (PySem.Str.ofString "range") = none
  b_str : mg (PySem.Str.ofString "str") = none
  b_tuple : mg (PySem.Str.ofString "tuple") = none
  b_zip : mg (PySem.Str.ofString "zip") = none
  vV : PySem.W.findCls K (.type "ValueError") (.type "type") "__init__" = some (.val (.builtin "ValueError.__init__"))
  k_ZERO : GloD K (ca K) mg (PySem.Str.ofString "ZERO") (.tup [(.int 0), (.int 1)])
structure AllOk (P : Program) (w : World) (K : PySem.W.Frag) (mg : Str → Option Value) (base : Heap) (x : Ctx K mg) (k : Nat) (Γ : Calls) : Prop where
  f0 : FnOk P w K mg base (L2.CX P w) k (He.ga K (PySem.Str.ofString "is_integer")) x.fd0 P0 (spF K (ca K) Γ 0 1)
  f1 : FnOk P w K mg base (L2.CX P w) k (He.ga K (PySem.Str.ofString "is_number")) x.fd1 P1 (spF K (ca K) Γ 1 1)
  f2 : FnOk P w K mg base (L2.CX P w) k (He.ga K (PySem.Str.ofString "is_polynomial")) x.fd2 P2 (spF K (ca K) Γ 2 1)
  f3 : FnOk P w K mg base (L2.CX P w) k (He.ga K (PySem.Str.ofString "is_broken")) x.fd3 P3 (spF K (ca K) Γ 3 1)
  f4 : FnOk P w K mg base (L2.CX P w) k (He.ga K (PySem.Str.ofString "check_polynomial")) x.fd4 P4 (spF K (ca K) Γ 4 1)
  f5 : FnOk P w K mg base (L2.CX P w) k (He.ga K (PySem.Str.ofString "degree")) x.fd5 P5 (spF K (ca K) Γ 5 1)
  f6 : FnOk P w K mg base (L2.CX P w) k (He.ga K (PySem.Str.ofString "_law_take")) x.fd6 P6 (spF K (ca K) Γ 6 2)
  f7 : FnOk P w K mg base (L2.CX P w) k (He.ga K (PySem.Str.ofString "_law_same")) x.fd7 P7 (spF K (ca K) Γ 7 2)
  f8 : FnOk P w K mg base (L2.CX P w) k (He.ga K (PySem.Str.ofString "_law_low")) x.fd8 P8 (spF K (ca K) Γ 8 2)
  f9 : FnOk P w K mg base (L2.CX P w) k (He.ga K (PySem.Str.ofString "_law_plus")) x.fd9 P9 (spF K (ca K) Γ 9 2)
  f10 : FnOk P w K mg base (L2.CX P w) k (He.ga K (PySem.Str.ofString "_law_times")) x.fd10 P10 (spF K (ca K) Γ 10 2)
  f11 : FnOk P w K mg base (L2.CX P w) k (He.ga K (PySem.Str.ofString "_law_dot")) x.fd11 P11 (spF K (ca K) Γ 11 2)
  f12 : FnOk P w K mg base (L2.CX P w) k (He.ga K (PySem.Str.ofString "_law_is_integer")) x.fd12 P12 (spF K (ca K) Γ 12 1)
  f13 : FnOk P w K mg base (L2.CX P w) k (He.ga K (PySem.Str.ofString "_law_is_number")) x.fd13 P13 (spF K (ca K) Γ 13 1)
  f14 : FnOk P w K mg base (L2.CX P w) k (He.ga K (PySem.Str.ofString "_law_is_polynomial")) x.fd14 P14 (spF K (ca K) Γ 14 1)
  f15 : FnOk P w K mg base (L2.CX P w) k (He.ga K (PySem.Str.ofString "_law_is_broken")) x.fd15 P15 (spF K (ca K) Γ 15 1)
  f16 : FnOk P w K mg base (L2.CX P w) k (He.ga K (PySem.Str.ofString "_law_integer")) x.fd16 P16 (spF K (ca K) Γ 16 1)
  f17 : FnOk P w K mg base (L2.CX P w) k (He.ga K (PySem.Str.ofString "_law_row")) x.fd17 P17 (spF K (ca K) Γ 17 2)
  f18 : FnOk P w K mg base (L2.CX P w) k (He.ga K (PySem.Str.ofString "_law_bent")) x.fd18 P18 (spF K (ca K) Γ 18 2)
  f19 : FnOk P w K mg base (L2.CX P w) k (He.ga K (PySem.Str.ofString "law")) x.fd19 P19 (spF K (ca K) Γ 19 1)
section
variable {P : Program} {w : World} {K : PySem.W.Frag} {mg : Str → Option Value} {base : Heap}
theorem hN0 : N0.Nodup := by decide +kernel
theorem sc0 : FnScope N0 P0 (defScope (top 6)) := ⟨rfl, rfl, rfl, hN0, rfl, by decide +kernel, by decide +kernel⟩
theorem bN0 (x : Ctx K mg) : Binds K x.fd0 P0 [] := x.F0.bindsN fun _ _ _ _ _ _ us hl => match us, hl with | [_], _ => rfl
theorem hN1 : N1.Nodup := by decide +kernel
theorem sc1 : FnScope N1 P1 (defScope (top 7)) := ⟨rfl, rfl, rfl, hN1, rfl, by decide +kernel, by decide +kernel⟩
theorem bN1 (x : Ctx K mg) : Binds K x.fd1 P1 [] := x.F1.bindsN fun _ _ _ _ _ _ us hl => match us, hl with | [_], _ => rfl
theorem hN2 : N2.Nodup := by decide +kernel
theorem sc2 : FnScope N2 P2 (defScope (top 9)) := ⟨rfl, rfl, rfl, hN2, rfl, by decide +kernel, by decide +kernel⟩
theorem bN2 (x : Ctx K mg) : Binds K x.fd2 P2 [] := x.F2.bindsN fun _ _ _ _ _ _ us hl => match us, hl with | [_], _ => rfl
theorem hN3 : N3.Nodup := by decide +kernel
theorem sc3 : FnScope N3 P3 (defScope (top 10)) := ⟨rfl, rfl, rfl, hN3, rfl, by decide +kernel, by decide +kernel⟩
theorem bN3 (x : Ctx K mg) : Binds K x.fd3 P3 [] := x.F3.bindsN fun _ _ _ _ _ _ us hl => match us, hl with | [_], _ => rfl
theorem hN4 : N4.Nodup := by decide +kernel
theorem sc4 : FnScope N4 P4 (defScope (top 11)) := ⟨rfl, rfl, rfl, hN4, rfl, by decide +kernel, by decide +kernel⟩
theorem bN4 (x : Ctx K mg) : Binds K x.fd4 P4 [] := x.F4.bindsN fun _ _ _ _ _ _ us hl => match us, hl with | [_], _ => rfl
theorem hN5 : N5.Nodup := by decide +kernel
theorem sc5 : FnScope N5 P5 (defScope (top 12)) := ⟨rfl, rfl, rfl, hN5, rfl, by decide +kernel, by decide +kernel⟩
theorem bN5 (x : Ctx K mg) : Binds K x.fd5 P5 [] := x.F5.bindsN fun _ _ _ _ _ _ us hl => match us, hl with | [_], _ => rfl
theorem hN6 : N6.Nodup := by decide +kernel
theorem sc6 : FnScope N6 P6 (defScope (top 14)) := ⟨rfl, rfl, rfl, hN6, rfl, by decide +kernel, by decide +kernel⟩
theorem bN6 (x : Ctx K mg) : Binds K x.fd6 P6 [] := x.F6.bindsN fun _ _ _ _ _ _ us hl => match us, hl with | [_, _], _ => rfl
theorem hN7 : N7.Nodup := by decide +kernel
theorem sc7 : FnScope N7 P7 (defScope (top 15)) := ⟨rfl, rfl, rfl, hN7, rfl, by decide +kernel, by decide +kernel⟩
theorem bN7 (x : Ctx K mg) : Binds K x.fd7 P7 [] := x.F7.bindsN fun _ _ _ _ _ _ us hl => match us, hl with | [_, _], _ => rfl
theorem hN8 : N8.Nodup := by decide +kernel
theorem sc8 : FnScope N8 P8 (defScope (top 16)) := ⟨rfl, rfl, rfl, hN8, rfl, by decide +kernel, by decide +kernel⟩
theorem bN8 (x : Ctx K mg) : Binds K x.fd8 P8 [] := x.F8.bindsN fun _ _ _ _ _ _ us hl => match us, hl with | [_, _], _ => rfl
theorem hN9 : N9.Nodup := by decide +kernel
theorem sc9 : FnScope N9 P9 (defScope (top 17)) := ⟨rfl, rfl, rfl, hN9, rfl, by decide +kernel, by decide +kernel⟩
theorem bN9 (x : Ctx K mg) : Binds K x.fd9 P9 [] := x.F9.bindsN fun _ _ _ _ _ _ us hl => match us, hl with | [_, _], _ => rfl
theorem hN10 : N10.Nodup := by decide +kernel
theorem sc10 : FnScope N10 P10 (defScope (top 18)) := ⟨rfl, rfl, rfl, hN10, rfl, by decide +kernel, by decide +kernel⟩
theorem bN10 (x : Ctx K mg) : Binds K x.fd10 P10 [] := x.F10.bindsN fun _ _ _ _ _ _ us hl => match us, hl with | [_, _], _ => rfl
theorem hN11 : N11.Nodup := by decide +kernel
theorem sc11 : FnScope N11 P11 (defScope (top 19)) := ⟨rfl, rfl, rfl, hN11, rfl, by decide +kernel, by decide +kernel⟩
theorem bN11 (x : Ctx K mg) : Binds K x.fd11 P11 [] := x.F11.bindsN fun _ _ _ _ _ _ us hl => match us, hl with | [_, _], _ => rfl
theorem hN12 : N12.Nodup := by decide +kernel
theorem sc12 : FnScope N12 P12 (defScope (top 20)) := ⟨rfl, rfl, rfl, hN12, rfl, by decide +kernel, by decide +kernel⟩
theorem bN12 (x : Ctx K mg) : Binds K x.fd12 P12 [] := x.F12.bindsN fun _ _ _ _ _ _ us hl => match us, hl with | [_], _ => rfl
theorem hN13 : N13.Nodup := by decide +kernel
theorem sc13 : FnScope N13 P13 (defScope (top 21)) := ⟨rfl, rfl, rfl, hN13, rfl, by decide +kernel, by decide +kernel⟩
theorem bN13 (x : Ctx K mg) : Binds K x.fd13 P13 [] := x.F13.bindsN fun _ _ _ _ _ _ us hl => match us, hl with | [_], _ => rfl
theorem hN14 : N14.Nodup := by decide +kernel
theorem sc14 : FnScope N14 P14 (defScope (top 22)) := ⟨rfl, rfl, rfl, hN14, rfl, by decide +kernel, by decide +kernel⟩
theorem bN14 (x : Ctx K mg) : Binds K x.fd14 P14 [] := x.F14.bindsN fun _ _ _ _ _ _ us hl => match us, hl with | [_], _ => rfl
theorem hN15 : N15.Nodup := by decide +kernel
theorem sc15 : FnScope N15 P15 (defScope (top 23)) := ⟨rfl, rfl, rfl, hN15, rfl, by decide +kernel, by decide +kernel⟩
theorem bN15 (x : Ctx K mg) : Binds K x.fd15 P15 [] := x.F15.bindsN fun _ _ _ _ _ _ us hl => match us, hl with | [_], _ => rfl
theorem hN16 : N16.Nodup := by decide +kernel
theorem sc16 : FnScope N16 P16 (defScope (top 24)) := ⟨rfl, rfl, rfl, hN16, rfl, by decide +kernel, by decide +kernel⟩
theorem bN16 (x : Ctx K mg) : Binds K x.fd16 P16 [] := x.F16.bindsN fun _ _ _ _ _ _ us hl => match us, hl with | [_], _ => rfl
theorem hN17 : N17.Nodup := by decide +kernel
theorem sc17 : FnScope N17 P17 (defScope (top 25)) := ⟨rfl, rfl, rfl, hN17, rfl, by decide +kernel, by decide +kernel⟩
theorem bN17 (x : Ctx K mg) : Binds K x.fd17 P17 [] := x.F17.bindsN fun _ _ _ _ _ _ us hl => match us, hl with | [_, _], _ => rfl
theorem hN18 : N18.Nodup := by decide +kernel
theorem sc18 : FnScope N18 P18 (defScope (top 26)) := ⟨rfl, rfl, rfl, hN18, rfl, by decide +kernel, by decide +kernel⟩
theorem bN18 (x : Ctx K mg) : Binds K x.fd18 P18 [] := x.F18.bindsN fun _ _ _ _ _ _ us hl => match us, hl with | [_, _], _ => rfl
theorem hN19 : N19.Nodup := by decide +kernel
theorem sc19 : FnScope N19 P19 (defScope (top 27)) := ⟨rfl, rfl, rfl, hN19, rfl, by decide +kernel, by decide +kernel⟩
theorem bN19 (x : Ctx K mg) : Binds K x.fd19 P19 [] := x.F19.bindsN fun _ _ _ _ _ _ us hl => match us, hl with | [_], _ => rfl
theorem scI : FnScope [(PySem.Str.ofString "self"), (PySem.Str.ofString "value")] [(PySem.Str.ofString "self"), (PySem.Str.ofString "value")] (defScope (clsM (top 2))) := ⟨rfl, rfl, rfl, by decide +kernel, rfl, by decide +kernel, by decide +kernel⟩
theorem bI (x : Ctx K mg) : Binds K x.fdI [(PySem.Str.ofString "self"), (PySem.Str.ofString "value")] [] := x.FI.bindsN fun _ _ _ _ _ _ us hl => match us, hl with | [_, _], _ => rfl
theorem init (x : Ctx K mg) : FnOk P w K mg base (L2.CX P w) 1 x.fI x.fdI [(PySem.Str.ofString "self"), (PySem.Str.ofString "value")] (spInit K) := init_ok x.FI scI rfl rfl (fun _ h => by unfold PySem.Env.kindOf; rw [h]; rfl) (fun _ => ⟨_, rfl⟩) x.b_ValueError x.vV
/-- is_integer -/
theorem b0 {Γ : Calls} {k : Nat} (x : Ctx K mg) (hk : 2 ≤ k) (IH : AllOk P w K mg base x k Γ) (cdv : Value) (A : Around) (outer : List PySem.Env) (s : Shared) (H : Hp) (E : XK) (hr : Room k (A.deeper (envOfC (PySem.Str.ofString "is_integer") (defScope (top 6)) s.heap.objs.size (He.ga K (PySem.Str.ofString "is_integer")) cdv))) :
    PSs (cxOf (L2.CX P w) P w K mg base N0 (PySem.Str.ofString "is_integer") (defScope (top 6)) (He.ga K (PySem.Str.ofString "is_integer")) cdv A outer s H E) (defBody (top 6)) (tS K (ca K) (fun cls d _ H => E cls d H) (d0 Γ)) := by
  have tk : Takes (cxOf (L2.CX P w) P w K mg base N0 (PySem.Str.ofString "is_integer") (defScope (top 6)) (He.ga K (PySem.Str.ofString "is_integer")) cdv A outer s H E) (fun cls d _ H => E cls d H) := takes_of rfl rfl rfl rfl
  have po : PassesOwn (model P w) (A.deeper (envOfC (PySem.Str.ofString "is_integer") (defScope (top 6)) s.heap.objs.size (He.ga K (PySem.Str.ofString "is_integer")) cdv)) _ (cxOf (L2.CX P w) P w K mg base N0 (PySem.Str.ofString "is_integer") (defScope (top 6)) (He.ga K (PySem.Str.ofString "is_integer")) cdv A outer s H E).xe := passes_of (X := cxOf (L2.CX P w) P w K mg base N0 (PySem.Str.ofString "is_integer") (defScope (top 6)) (He.ga K (PySem.Str.ofString "is_integer")) cdv A outer s H E) rfl
  have hu := hr.units
  have hu1 : (A.deeper (envOfC (PySem.Str.ofString "is_integer") (defScope (top 6)) s.heap.objs.size (He.ga K (PySem.Str.ofString "is_integer")) cdv)).units + 65 < cLine := by have := hr.un; omega
  unfold d0
  exact (s_one (s_ret (e_and (e_isi x.C (by decide) rfl x.b_isinstance (e_var rfl (Or.inl rfl)) (c_ty rfl x.b_int (by decide +kernel))) (e_one (e_not (e_isi x.C (by decide) rfl x.b_isinstance (e_var rfl (Or.inl rfl)) (c_ty rfl x.b_bool (by decide +kernel))))))))
/-- is_number -/
theorem b1 {Γ : Calls} {k : Nat} (x : Ctx K mg) (hk : 2 ≤ k) (IH : AllOk P w K mg base x k Γ) (cdv : Value) (A : Around) (outer : List PySem.Env) (s : Shared) (H : Hp) (E : XK) (hr : Room k (A.deeper (envOfC (PySem.Str.ofString "is_number") (defScope (top 7)) s.heap.objs.size (He.ga K (PySem.Str.ofString "is_number")) cdv))) :
    PSs (cxOf (L2.CX P w) P w K mg base N1 (PySem.Str.ofString "is_number") (defScope (top 7)) (He.ga K (PySem.Str.ofString "is_number")) cdv A outer s H E) (defBody (top 7)) (tS K (ca K) (fun cls d _ H => E cls d H) (d1 Γ)) := by
  have tk : Takes (cxOf (L2.CX P w) P w K mg base N1 (PySem.Str.ofString "is_number") (defScope (top 7)) (He.ga K (PySem.Str.ofString "is_number")) cdv A outer s H E) (fun cls d _ H => E cls d H) := takes_of rfl rfl rfl rfl
  have po : PassesOwn (model P w) (A.deeper (envOfC (PySem.Str.ofString "is_number") (defScope (top 7)) s.heap.objs.size (He.ga K (PySem.Str.ofString "is_number")) cdv)) _ (cxOf (L2.CX P w) P w K mg base N1 (PySem.Str.ofString "is_number") (defScope (top 7)) (He.ga K (PySem.Str.ofString "is_number")) cdv A outer s H E).xe := passes_of (X := cxOf (L2.CX P w) P w K mg base N1 (PySem.Str.ofString "is_number") (defScope (top 7)) (He.ga K (PySem.Str.ofString "is_number")) cdv A outer s H E) rfl
  have hu := hr.units
  have hu1 : (A.deeper (envOfC (PySem.Str.ofString "is_number") (defScope (top 7)) s.heap.objs.size (He.ga K (PySem.Str.ofString "is_number")) cdv)).units + 65 < cLine := by have := hr.un; omega
  unfold d1
  exact (s_cons (s_if (PW.pt (w_or (t_not (t_val (e_isi x.C (by decide) rfl x.b_isinstance (e_var rfl (Or.inl rfl)) (c_ty rfl x.b_tuple (by decide +kernel))))) (w_or (t_cmp (r_ne hu) m_ne (e_fnB c_len n_len rfl x.b_len (by decide +kernel) (d_cons (e_var rfl (Or.inl rfl)) d_nil)) e_int rfl) (w_or1 (t_not (t_val (e_fnB (c_all rfl) n_all rfl x.b_all (by decide +kernel) (d_cons (e_lc (own := [(PySem.Str.ofString "a", 1)]) rfl hN1 rfl (i_seq (e_var rfl (Or.inl rfl))) (blkOk_by (by kernel_rfl)) (fun _ _ _ _ _ => (gv_name (by decide) hN1 rfl (Or.inl rfl))) (fun _ _ _ _ _ => pts0) (fun _ _ _ _ _ => (e_call (IH.f0) hr rfl x.g_is_integer x.F0.kp (bN0 x) tk0 (d_cons (e_var rfl (Or.inl rfl)) d_nil) (len_cons len_nil)))) d_nil))))))))
    (s_one (s_ret e_bl))
    s_nil)
    (s_one (s_ret (e_and (e_cmp r_gt m_gt (e_idx (e_var rfl (Or.inl rfl)) e_int (fun _ _ => rfl)) e_int rfl) (e_one (e_cmp (r_eq hu) m_eq (e_fnM c_gcd n_gcd rfl x.i_gcd (d_cons (e_idx (e_var rfl (Or.inl rfl)) e_int (fun _ _ => rfl)) (d_cons (e_idx (e_var rfl (Or.inl rfl)) e_int (fun _ _ => rfl)) d_nil))) e_int rfl))))))
/-- is_polynomial -/
theorem b2 {Γ : Calls} {k : Nat} (x : Ctx K mg) (hk : 2 ≤ k) (IH : AllOk P w K mg base x k Γ) (cdv : Value) (A : Around) (outer : List PySem.Env) (s : Shared) (H : Hp) (E : XK) (hr : Room k (A.deeper (envOfC (PySem.Str.ofString "is_polynomial") (defScope (top 9)) s.heap.objs.size (He.ga K (PySem.Str.ofString "is_polynomial")) cdv))) :
    PSs (cxOf (L2.CX P w) P w K mg base N2 (PySem.Str.ofString "is_polynomial") (defScope (top 9)) (He.ga K (PySem.Str.ofString "is_polynomial")) cdv A outer s H E) (defBody (top 9)) (tS K (ca K) (fun cls d _ H => E cls d H) (d2 Γ)) := by
  have tk : Takes (cxOf (L2.CX P w) P w K mg base N2 (PySem.Str.ofString "is_polynomial") (defScope (top 9)) (He.ga K (PySem.Str.ofString "is_polynomial")) cdv A outer s H E) (fun cls d _ H => E cls d H) := takes_of rfl rfl rfl rfl
  have po : PassesOwn (model P w) (A.deeper (envOfC (PySem.Str.ofString "is_polynomial") (defScope (top 9)) s.heap.objs.size (He.ga K (PySem.Str.ofString "is_polynomial")) cdv)) _ (cxOf (L2.CX P w) P w K mg base N2 (PySem.Str.ofString "is_polynomial") (defScope (top 9)) (He.ga K (PySem.Str.ofString "is_polynomial")) cdv A outer s H E).xe := passes_of (X := cxOf (L2.CX P w) P w K mg base N2 (PySem.Str.ofString "is_polynomial") (defScope (top 9)) (He.ga K (PySem.Str.ofString "is_polynomial")) cdv A outer s H E) rfl
  have hu := hr.units
  have hu1 : (A.deeper (envOfC (PySem.Str.ofString "is_polynomial") (defScope (top 9)) s.heap.objs.size (He.ga K (PySem.Str.ofString "is_polynomial")) cdv)).units + 65 < cLine := by have := hr.un; omega
  unfold d2
  exact (s_cons (s_if (PW.pt (w_or (t_not (t_val (e_isi x.C (by decide) rfl x.b_isinstance (e_var rfl (Or.inl rfl)) (c_ty rfl x.b_tuple (by decide +kernel))))) (w_or1 (t_not (t_val (e_fnB (c_all rfl) n_all rfl x.b_all (by decide +kernel) (d_cons (e_lc (own := [(PySem.Str.ofString "a", 1)]) rfl hN2 rfl (i_seq (e_var rfl (Or.inl rfl))) (blkOk_by (by kernel_rfl)) (fun _ _ _ _ _ => (gv_name (by decide) hN2 rfl (Or.inl rfl))) (fun _ _ _ _ _ => pts0) (fun _ _ _ _ _ => (e_call (IH.f0) hr rfl x.g_is_integer x.F0.kp (bN0 x) tk0 (d_cons (e_var rfl (Or.inl rfl)) d_nil) (len_cons len_nil)))) d_nil)))))))
    (s_one (s_ret e_bl))
    s_nil)
    (s_one (s_ret (e_or (e_cmp (r_eq hu) m_eq (e_var rfl (Or.inl rfl)) (e_tup d_nil len_nil) rfl) (e_one (e_cmp (r_ne hu) m_ne (e_idx (e_var rfl (Or.inl rfl)) e_int (fun _ _ => rfl)) e_int rfl))))))
/-- is_broken -/
theorem b3 {Γ : Calls} {k : Nat} (x : Ctx K mg) (hk : 2 ≤ k) (IH : AllOk P w K mg base x k Γ) (cdv : Value) (A : Around) (outer : List PySem.Env) (s : Shared) (H : Hp) (E : XK) (hr : Room k (A.deeper (envOfC (PySem.Str.ofString "is_broken") (defScope (top 10)) s.heap.objs.size (He.ga K (PySem.Str.ofString "is_broken")) cdv))) :
    PSs (cxOf (L2.CX P w) P w K mg base N3 (PySem.Str.ofString "is_broken") (defScope (top 10)) (He.ga K (PySem.Str.ofString "is_broken")) cdv A outer s H E) (defBody (top 10)) (tS K (ca K) (fun cls d _ H => E cls d H) (d3 Γ)) := by
  have tk : Takes (cxOf (L2.CX P w) P w K mg base N3 (PySem.Str.ofString "is_broken") (defScope (top 10)) (He.ga K (PySem.Str.ofString "is_broken")) cdv A outer s H E) (fun cls d _ H => E cls d H) := takes_of rfl rfl rfl rfl
  have po : PassesOwn (model P w) (A.deeper (envOfC (PySem.Str.ofString "is_broken") (defScope (top 10)) s.heap.objs.size (He.ga K (PySem.Str.ofString "is_broken")) cdv)) _ (cxOf (L2.CX P w) P w K mg base N3 (PySem.Str.ofString "is_broken") (defScope (top 10)) (He.ga K (PySem.Str.ofString "is_broken")) cdv A outer s H E).xe := passes_of (X := cxOf (L2.CX P w) P w K mg base N3 (PySem.Str.ofString "is_broken") (defScope (top 10)) (He.ga K (PySem.Str.ofString "is_broken")) cdv A outer s H E) rfl
  have hu := hr.units
  have hu1 : (A.deeper (envOfC (PySem.Str.ofString "is_broken") (defScope (top 10)) s.heap.objs.size (He.ga K (PySem.Str.ofString "is_broken")) cdv)).units + 65 < cLine := by have := hr.un; omega
  unfold d3
  exact (s_cons (s_if (PW.pt (w_or (t_not (t_val (e_isi x.C (by decide) rfl x.b_isinstance (e_var rfl (Or.inl rfl)) (c_ty rfl x.b_tuple (by decide +kernel))))) (w_or1 (t_not (t_val (e_fnB (c_all rfl) n_all rfl x.b_all (by decide +kernel) (d_cons (e_lc (own := [(PySem.Str.ofString "a", 1)]) rfl hN3 rfl (i_seq (e_var rfl (Or.inl rfl))) (blkOk_by (by kernel_rfl)) (fun _ _ _ _ _ => (gv_name (by decide) hN3 rfl (Or.inl rfl))) (fun _ _ _ _ _ => pts0) (fun _ _ _ _ _ => (e_call (IH.f1) hr rfl x.g_is_number x.F1.kp (bN1 x) tk0 (d_cons (e_var rfl (Or.inl rfl)) d_nil) (len_cons len_nil)))) d_nil)))))))
    (s_one (s_ret e_bl))
    s_nil)
    (s_one (s_ret (e_or (e_cmp (r_eq hu) m_eq (e_var rfl (Or.inl rfl)) (e_tup d_nil len_nil) rfl) (e_one (e_cmp (r_ne hu) m_ne (e_idx (e_var rfl (Or.inl rfl)) e_int (fun _ _ => rfl)) (e_gl x.k_ZERO rfl) rfl))))))
/-- check_polynomial -/
theorem b4 {Γ : Calls} {k : Nat} (x : Ctx K mg) (hk : 2 ≤ k) (IH : AllOk P w K mg base x k Γ) (cdv : Value) (A : Around) (outer : List PySem.Env) (s : Shared) (H : Hp) (E : XK) (hr : Room k (A.deeper (envOfC (PySem.Str.ofString "check_polynomial") (defScope (top 11)) s.heap.objs.size (He.ga K (PySem.Str.ofString "check_polynomial")) cdv))) :
    PSs (cxOf (L2.CX P w) P w K mg base N4 (PySem.Str.ofString "check_polynomial") (defScope (top 11)) (He.ga K (PySem.Str.ofString "check_polynomial")) cdv A outer s H E) (defBody (top 11)) (tS K (ca K) (fun cls d _ H => E cls d H) (d4 Γ)) := by
  have tk : Takes (cxOf (L2.CX P w) P w K mg base N4 (PySem.Str.ofString "check_polynomial") (defScope (top 11)) (He.ga K (PySem.Str.ofString "check_polynomial")) cdv A outer s H E) (fun cls d _ H => E cls d H) := takes_of rfl rfl rfl rfl
  have po : PassesOwn (model P w) (A.deeper (envOfC (PySem.Str.ofString "check_polynomial") (defScope (top 11)) s.heap.objs.size (He.ga K (PySem.Str.ofString "check_polynomial")) cdv)) _ (cxOf (L2.CX P w) P w K mg base N4 (PySem.Str.ofString "check_polynomial") (defScope (top 11)) (He.ga K (PySem.Str.ofString "check_polynomial")) cdv A outer s H E).xe := passes_of (X := cxOf (L2.CX P w) P w K mg base N4 (PySem.Str.ofString "check_polynomial") (defScope (top 11)) (He.ga K (PySem.Str.ofString "check_polynomial")) cdv A outer s H E) rfl
  have hu := hr.units
  have hu1 : (A.deeper (envOfC (PySem.Str.ofString "check_polynomial") (defScope (top 11)) s.heap.objs.size (He.ga K (PySem.Str.ofString "check_polynomial")) cdv)).units + 65 < cLine := by have := hr.un; omega
  unfold d4
  exact (s_one (s_if (t_not (t_val (e_call (IH.f2) hr rfl x.g_is_polynomial x.F2.kp (bN2 x) tk (d_cons (e_var rfl (Or.inl rfl)) d_nil) (len_cons len_nil))))
    (s_one (s_raise (c := 1) rfl tk (x.ex 1 (by decide)) x.tI (init x) (hr.mono hk) (bI x) rfl x.g_InvalidPolynomial (e_var rfl (Or.inl rfl))))
    s_nil))
/-- degree -/
theorem b5 {Γ : Calls} {k : Nat} (x : Ctx K mg) (hk : 2 ≤ k) (IH : AllOk P w K mg base x k Γ) (cdv : Value) (A : Around) (outer : List PySem.Env) (s : Shared) (H : Hp) (E : XK) (hr : Room k (A.deeper (envOfC (PySem.Str.ofString "degree") (defScope (top 12)) s.heap.objs.size (He.ga K (PySem.Str.ofString "degree")) cdv))) :
    PSs (cxOf (L2.CX P w) P w K mg base N5 (PySem.Str.ofString "degree") (defScope (top 12)) (He.ga K (PySem.Str.ofString "degree")) cdv A outer s H E) (defBody (top 12)) (tS K (ca K) (fun cls d _ H => E cls d H) (d5 Γ)) := by
  have tk : Takes (cxOf (L2.CX P w) P w K mg base N5 (PySem.Str.ofString "degree") (defScope (top 12)) (He.ga K (PySem.Str.ofString "degree")) cdv A outer s H E) (fun cls d _ H => E cls d H) := takes_of rfl rfl rfl rfl
  have po : PassesOwn (model P w) (A.deeper (envOfC (PySem.Str.ofString "degree") (defScope (top 12)) s.heap.objs.size (He.ga K (PySem.Str.ofString "degree")) cdv)) _ (cxOf (L2.CX P w) P w K mg base N5 (PySem.Str.ofString "degree") (defScope (top 12)) (He.ga K (PySem.Str.ofString "degree")) cdv A outer s H E).xe := passes_of (X := cxOf (L2.CX P w) P w K mg base N5 (PySem.Str.ofString "degree") (defScope (top 12)) (He.ga K (PySem.Str.ofString "degree")) cdv A outer s H E) rfl
  have hu := hr.units
  have hu1 : (A.deeper (envOfC (PySem.Str.ofString "degree") (defScope (top 12)) s.heap.objs.size (He.ga K (PySem.Str.ofString "degree")) cdv)).units + 65 < cLine := by have := hr.un; omega
  unfold d5
  exact (s_cons (s_expr (e_call (IH.f4) hr rfl x.g_check_polynomial x.F4.kp (bN4 x) tk (d_cons (e_var rfl (Or.inl rfl)) d_nil) (len_cons len_nil)))
    (s_one (s_ret (e_bin r_sub m_sub (e_fnB c_len n_len rfl x.b_len (by decide +kernel) (d_cons (e_var rfl (Or.inl rfl)) d_nil)) e_int))))
/-- _law_take -/
theorem b6 {Γ : Calls} {k : Nat} (x : Ctx K mg) (hk : 2 ≤ k) (IH : AllOk P w K mg base x k Γ) (cdv : Value) (A : Around) (outer : List PySem.Env) (s : Shared) (H : Hp) (E : XK) (hr : Room k (A.deeper (envOfC (PySem.Str.ofString "_law_take") (defScope (top 14)) s.heap.objs.size (He.ga K (PySem.Str.ofString "_law_take")) cdv))) :
    PSs (cxOf (L2.CX P w) P w K mg base N6 (PySem.Str.ofString "_law_take") (defScope (top 14)) (He.ga K (PySem.Str.ofString "_law_take")) cdv A outer s H E) (defBody (top 14)) (tS K (ca K) (fun cls d _ H => E cls d H) (d6 Γ)) := by
  have tk : Takes (cxOf (L2.CX P w) P w K mg base N6 (PySem.Str.ofString "_law_take") (defScope (top 14)) (He.ga K (PySem.Str.ofString "_law_take")) cdv A outer s H E) (fun cls d _ H => E cls d H) := takes_of rfl rfl rfl rfl
  have po : PassesOwn (model P w) (A.deeper (envOfC (PySem.Str.ofString "_law_take") (defScope (top 14)) s.heap.objs.size (He.ga K (PySem.Str.ofString "_law_take")) cdv)) _ (cxOf (L2.CX P w) P w K mg base N6 (PySem.Str.ofString "_law_take") (defScope (top 14)) (He.ga K (PySem.Str.ofString "_law_take")) cdv A outer s H E).xe := passes_of (X := cxOf (L2.CX P w) P w K mg base N6 (PySem.Str.ofString "_law_take") (defScope (top 14)) (He.ga K (PySem.Str.ofString "_law_take")) cdv A outer s H E) rfl
  have hu := hr.units
  have hu1 : (A.deeper (envOfC (PySem.Str.ofString "_law_take") (defScope (top 14)) s.heap.objs.size (He.ga K (PySem.Str.ofString "_law_take")) cdv)).units + 65 < cLine := by have := hr.un; omega
  unfold d6
  exact (s_cons (s_if (PW.pt (w_and (t_cmp (r_eq hu) m_eq (e_idx (e_var rfl (Or.inl rfl)) e_int (fun _ _ => rfl)) e_int rfl) (w_and1 (t_cmp r_lt m_lt (e_idx (e_var rfl (Or.inl rfl)) e_int (fun _ _ => rfl)) (e_fnB c_len n_len rfl x.b_len (by decide +kernel) (d_cons (e_var rfl (Or.inl rfl)) d_nil)) rfl))))
    (s_cons (s_set (i := 2) hN6 rfl (Or.inl rfl) (e_idx (e_var rfl (Or.inl rfl)) (e_idx (e_var rfl (Or.inl rfl)) e_int (fun _ _ => rfl)) (fun _ _ => rfl)))
    (s_cons (s_augI ip_add (e_var rfl (Or.inl rfl)) e_int e_int)
    (s_one (s_if (t_cmp r_ge m_ge (e_var rfl (Or.inl rfl)) (e_bin r_pow m_pow e_int e_int) rfl)
    (s_one (s_setI (e_bin r_sub m_sub (e_var rfl (Or.inl rfl)) (e_bin r_pow m_pow e_int e_int)) (e_var rfl (Or.inl rfl)) e_int))
    (s_cons (s_set (i := 3) hN6 rfl (Or.inl rfl) (e_bin r_mod m_mod (e_fnT c_int n_int rfl x.b_int (by decide +kernel) (d_cons (e_var rfl (Or.inl rfl)) d_nil)) e_int))
    (s_cons (s_set (i := 3) hN6 rfl (Or.inl rfl) (e_bin r_mod m_mod (e_fnT c_int n_int rfl x.b_int (by decide +kernel) (d_cons (e_bin r_cat m_cat (e_bin r_cat m_cat (e_bin r_rep m_rep (e_var rfl (Or.inl rfl)) (e_var rfl (Or.inl rfl))) (e_bin r_rep m_rep e_int (e_var rfl (Or.inl rfl)))) (e_bin r_rep m_rep e_int (e_idx (e_var rfl (Or.inl rfl)) e_int (fun _ _ => rfl)))) d_nil)) e_int))
    (s_one (s_setI (e_bin r_mod m_mod (e_fnT c_int n_int rfl x.b_int (by decide +kernel) (d_cons (e_bin r_cat m_cat (e_idx (e_var rfl (Or.inl rfl)) e_int (fun _ _ => rfl)) (e_var rfl (Or.inl rfl))) d_nil)) e_int) (e_var rfl (Or.inl rfl)) e_int))))))))
    s_nil)
    (s_cons (s_if (t_cmp r_gt m_gt (e_idx (e_var rfl (Or.inl rfl)) e_int (fun _ _ => rfl)) e_int rfl)
    (s_cons (s_set (i := 4) hN6 rfl (Or.inl rfl) (e_bin r_mod m_mod (e_fnT c_int n_int rfl x.b_int (by decide +kernel) (d_cons (e_idx (e_var rfl (Or.inl rfl)) e_int (fun _ _ => rfl)) d_nil)) (e_var rfl (Or.inl rfl))))
    (s_cons (s_setI (e_bin r_fdiv m_fdiv (e_idx (e_var rfl (Or.inl rfl)) e_int (fun _ _ => rfl)) (e_var rfl (Or.inl rfl))) (e_var rfl (Or.inl rfl)) e_int)
    (s_one (s_ret (e_var rfl (Or.inl rfl))))))
    s_nil)
    (s_cons (s_setI (e_bin r_mod m_mod (e_fnT c_int n_int rfl x.b_int (by decide +kernel) (d_cons (e_bin r_cat m_cat (e_bin r_cat m_cat (e_bin r_rep m_rep (e_idx (e_var rfl (Or.inl rfl)) e_int (fun _ _ => rfl)) e_int) (e_bin r_rep m_rep e_int (e_idx (e_var rfl (Or.inl rfl)) e_int (fun _ _ => rfl)))) e_int) d_nil)) e_int) (e_var rfl (Or.inl rfl)) e_int)
    (s_cons (s_setI (e_bin r_mod m_mod (e_fnT c_int n_int rfl x.b_int (by decide +kernel) (d_cons (e_bin r_cat m_cat (e_bin r_rep m_rep (e_idx (e_var rfl (Or.inl rfl)) e_int (fun _ _ => rfl)) (e_idx (e_var rfl (Or.inl rfl)) e_int (fun _ _ => rfl))) e_int) d_nil)) e_int) (e_var rfl (Or.inl rfl)) e_int)
    (s_one (s_ret (e_bin r_mod m_mod (e_fnT c_int n_int rfl x.b_int (by decide +kernel) (d_cons (e_bin r_fdiv m_fdiv (e_idx (e_var rfl (Or.inl rfl)) e_int (fun _ _ => rfl)) e_int) d_nil)) (e_var rfl (Or.inl rfl)))))))))
/-- _law_same -/
theorem b7 {Γ : Calls} {k : Nat} (x : Ctx K mg) (hk : 2 ≤ k) (IH : AllOk P w K mg base x k Γ) (cdv : Value) (A : Around) (outer : List PySem.Env) (s : Shared) (H : Hp) (E : XK) (hr : Room k (A.deeper (envOfC (PySem.Str.ofString "_law_same") (defScope (top 15)) s.heap.objs.size (He.ga K (PySem.Str.ofString "_law_same")) cdv))) :
    PSs (cxOf (L2.CX P w) P w K mg base N7 (PySem.Str.ofString "_law_same") (defScope (top 15)) (He.ga K (PySem.Str.ofString "_law_same")) cdv A outer s H E) (defBody (top 15)) (tS K (ca K) (fun cls d _ H => E cls d H) (d7 Γ)) := by
  have tk : Takes (cxOf (L2.CX P w) P w K mg base N7 (PySem.Str.ofString "_law_same") (defScope (top 15)) (He.ga K (PySem.Str.ofString "_law_same")) cdv A outer s H E) (fun cls d _ H => E cls d H) := takes_of rfl rfl rfl rfl
  have po : PassesOwn (model P w) (A.deeper (envOfC (PySem.Str.ofString "_law_same") (defScope (top 15)) s.heap.objs.size (He.ga K (PySem.Str.ofString "_law_same")) cdv)) _ (cxOf (L2.CX P w) P w K mg base N7 (PySem.Str.ofString "_law_same") (defScope (top 15)) (He.ga K (PySem.Str.ofString "_law_same")) cdv A outer s H E).xe := passes_of (X := cxOf (L2.CX P w) P w K mg base N7 (PySem.Str.ofString "_law_same") (defScope (top 15)) (He.ga K (PySem.Str.ofString "_law_same")) cdv A outer s H E) rfl
  have hu := hr.units
  have hu1 : (A.deeper (envOfC (PySem.Str.ofString "_law_same") (defScope (top 15)) s.heap.objs.size (He.ga K (PySem.Str.ofString "_law_same")) cdv)).units + 65 < cLine := by have := hr.un; omega
  unfold d7
  exact (s_cons (s_if (t_isN (e_var rfl (Or.inr (Or.inl rfl))))
    (s_one (s_ret (e_isN (e_var rfl (Or.inr (Or.inl rfl))))))
    s_nil)
    (s_cons (s_if (t_val (e_isiN x.C (by decide) (by decide) rfl x.b_isinstance (e_var rfl (Or.inr (Or.inl rfl))) (cls_cons (c_ty rfl x.b_bool (by decide +kernel)) (cls_cons (c_ty rfl x.b_str (by decide +kernel)) cls_nil))))
    (s_one (s_ret (e_and (e_cmp (r_eq hu) m_eq (e_isi x.C (by decide) rfl x.b_isinstance (e_var rfl (Or.inr (Or.inl rfl))) (c_ty rfl x.b_bool (by decide +kernel))) (e_isi x.C (by decide) rfl x.b_isinstance (e_var rfl (Or.inr (Or.inl rfl))) (c_ty rfl x.b_bool (by decide +kernel))) rfl) (e_and (e_isiN x.C (by decide) (by decide) rfl x.b_isinstance (e_var rfl (Or.inr (Or.inl rfl))) (cls_cons (c_ty rfl x.b_bool (by decide +kernel)) (cls_cons (c_ty rfl x.b_str (by decide +kernel)) cls_nil))) (e_one (e_cmp (r_eq hu) m_eq (e_var rfl (Or.inr (Or.inl rfl))) (e_var rfl (Or.inr (Or.inl rfl))) rfl))))))
    s_nil)
    (s_cons (s_if (t_val (e_isi x.C (by decide) rfl x.b_isinstance (e_var rfl (Or.inr (Or.inl rfl))) (c_ty rfl x.b_int (by decide +kernel))))
    (s_one (s_ret (e_and (e_isi x.C (by decide) rfl x.b_isinstance (e_var rfl (Or.inr (Or.inl rfl))) (c_ty rfl x.b_int (by decide +kernel))) (e_and (e_not (e_isi x.C (by decide) rfl x.b_isinstance (e_var rfl (Or.inr (Or.inl rfl))) (c_ty rfl x.b_bool (by decide +kernel)))) (e_one (e_cmp (r_eq hu) m_eq (e_var rfl (Or.inr (Or.inl rfl))) (e_var rfl (Or.inr (Or.inl rfl))) rfl))))))
    s_nil)
    (s_cons (s_if (PW.pt (w_or (t_cmp (r_ne hu) m_ne (e_isi x.C (by decide) rfl x.b_isinstance (e_var rfl (Or.inr (Or.inl rfl))) (c_ty rfl x.b_list (by decide +kernel))) (e_isi x.C (by decide) rfl x.b_isinstance (e_var rfl (Or.inr (Or.inl rfl))) (c_ty rfl x.b_list (by decide +kernel))) rfl) (w_or1 (t_cmp (r_ne hu) m_ne (e_isi x.C (by decide) rfl x.b_isinstance (e_var rfl (Or.inr (Or.inl rfl))) (c_ty rfl x.b_tuple (by decide +kernel))) (e_isi x.C (by decide) rfl x.b_isinstance (e_var rfl (Or.inr (Or.inl rfl))) (c_ty rfl x.b_tuple (by decide +kernel))) rfl))))
    (s_one (s_ret e_bl))
    s_nil)
    (s_one (s_ret (e_and (e_cmp (r_eq hu) m_eq (e_fnB c_len n_len rfl x.b_len (by decide +kernel) (d_cons (e_var rfl (Or.inr (Or.inl rfl))) d_nil)) (e_fnB c_len n_len rfl x.b_len (by decide +kernel) (d_cons (e_var rfl (Or.inr (Or.inl rfl))) d_nil)) rfl) (e_one (e_fnB (c_all rfl) n_all rfl x.b_all (by decide +kernel) (d_cons (e_lc (own := [(PySem.Str.ofString "k", 2)]) rfl hN7 rfl (i_rng1 rfl x.b_range (e_fnB c_len n_len rfl x.b_len (by decide +kernel) (d_cons (e_var rfl (Or.inr (Or.inl rfl))) d_nil))) (blkOk_by (by kernel_rfl)) (fun _ _ _ _ _ => (gv_name (by decide) hN7 rfl (Or.inl rfl))) (fun _ _ _ _ _ => pts0) (fun _ _ _ _ _ => (e_call (IH.f7) hr rfl x.g__law_same x.F7.kp (bN7 x) tk0 (d_cons (e_idx (e_var rfl (Or.inr (Or.inl rfl))) (e_var rfl (Or.inl rfl)) (fun _ _ => rfl)) (d_cons (e_idx (e_var rfl (Or.inr (Or.inl rfl))) (e_var rfl (Or.inl rfl)) (fun _ _ => rfl)) d_nil)) (len_cons (len_cons len_nil))))) d_nil))))))))))
/-- _law_low -/
theorem b8 {Γ : Calls} {k : Nat} (x : Ctx K mg) (hk : 2 ≤ k) (IH : AllOk P w K mg base x k Γ) (cdv : Value) (A : Around) (outer : List PySem.Env) (s : Shared) (H : Hp) (E : XK) (hr : Room k (A.deeper (envOfC (PySem.Str.ofString "_law_low") (defScope (top 16)) s.heap.objs.size (He.ga K (PySem.Str.ofString "_law_low")) cdv))) :
    PSs (cxOf (L2.CX P w) P w K mg base N8 (PySem.Str.ofString "_law_low") (defScope (top 16)) (He.ga K (PySem.Str.ofString "_law_low")) cdv A outer s H E) (defBody (top 16)) (tS K (ca K) (fun cls d _ H => E cls d H) (d8 Γ)) := by
  have tk : Takes (cxOf (L2.CX P w) P w K mg base N8 (PySem.Str.ofString "_law_low") (defScope (top 16)) (He.ga K (PySem.Str.ofString "_law_low")) cdv A outer s H E) (fun cls d _ H => E cls d H) := takes_of rfl rfl rfl rfl
  have po : PassesOwn (model P w) (A.deeper (envOfC (PySem.Str.ofString "_law_low") (defScope (top 16)) s.heap.objs.size (He.ga K (PySem.Str.ofString "_law_low")) cdv)) _ (cxOf (L2.CX P w) P w K mg base N8 (PySem.Str.ofString "_law_low") (defScope (top 16)) (He.ga K (PySem.Str.ofString "_law_low")) cdv A outer s H E).xe := passes_of (X := cxOf (L2.CX P w) P w K mg base N8 (PySem.Str.ofString "_law_low") (defScope (top 16)) (He.ga K (PySem.Str.ofString "_law_low")) cdv A outer s H E) rfl
  have hu := hr.units
  have hu1 : (A.deeper (envOfC (PySem.Str.ofString "_law_low") (defScope (top 16)) s.heap.objs.size (He.ga K (PySem.Str.ofString "_law_low")) cdv)).units + 65 < cLine := by have := hr.un; omega
  unfold d8
  exact (s_cons (s_par (i := 2) (j := 3) rfl hN8 rfl rfl (by decide) rfl rfl (e_fnB c_abs n_abs rfl x.b_abs (by decide +kernel) (d_cons (e_var rfl (Or.inl rfl)) d_nil)) (e_fnB c_abs n_abs rfl x.b_abs (by decide +kernel) (d_cons (e_var rfl (Or.inl rfl)) d_nil)) rfl)
    (s_cons (s_for po rfl (i_rng1 rfl x.b_range e_int) (g_name hN8 rfl (Or.inl rfl))
    (s_cons (s_if (t_cmp (r_eq hu) m_eq (e_var rfl (Or.inl rfl)) e_int rfl)
    (s_one s_brk)
    s_nil)
    (s_one (s_par (i := 2) (j := 3) rfl hN8 rfl rfl (by decide) rfl rfl (e_var rfl (Or.inl rfl)) (e_bin r_mod m_mod (e_fnT c_int n_int rfl x.b_int (by decide +kernel) (d_cons (e_var rfl (Or.inl rfl)) d_nil)) (e_var rfl (Or.inl rfl))) rfl))))
    (s_cons (s_set (i := 5) hN8 rfl (Or.inl rfl) (e_ifExp (t_cmp r_gt m_gt (e_var rfl (Or.inl rfl)) e_int rfl) e_int (e_un r_neg m_neg e_int)))
    (s_one (s_ret (e_tup (d_cons (e_bin r_fdiv m_fdiv (e_bin r_rep m_rep (e_var rfl (Or.inl rfl)) (e_var rfl (Or.inl rfl))) (e_var rfl (Or.inl rfl))) (d_cons (e_bin r_fdiv m_fdiv (e_bin r_rep m_rep (e_var rfl (Or.inl rfl)) (e_var rfl (Or.inl rfl))) (e_var rfl (Or.inl rfl))) d_nil)) (len_cons (len_cons len_nil))))))))
/-- _law_plus -/
theorem b9 {Γ : Calls} {k : Nat} (x : Ctx K mg) (hk : 2 ≤ k) (IH : AllOk P w K mg base x k Γ) (cdv : Value) (A : Around) (outer : List PySem.Env) (s : Shared) (H : Hp) (E : XK) (hr : Room k (A.deeper (envOfC (PySem.Str.ofString "_law_plus") (defScope (top 17)) s.heap.objs.size (He.ga K (PySem.Str.ofString "_law_plus")) cdv))) :
    PSs (cxOf (L2.CX P w) P w K mg base N9 (PySem.Str.ofString "_law_plus") (defScope (top 17)) (He.ga K (PySem.Str.ofString "_law_plus")) cdv A outer s H E) (defBody (top 17)) (tS K (ca K) (fun cls d _ H => E cls d H) (d9 Γ)) := by
  have tk : Takes (cxOf (L2.CX P w) P w K mg base N9 (PySem.Str.ofString "_law_plus") (defScope (top 17)) (He.ga K (PySem.Str.ofString "_law_plus")) cdv A outer s H E) (fun cls d _ H => E cls d H) := takes_of rfl rfl rfl rfl
  have po : PassesOwn (model P w) (A.deeper (envOfC (PySem.Str.ofString "_law_plus") (defScope (top 17)) s.heap.objs.size (He.ga K (PySem.Str.ofString "_law_plus")) cdv)) _ (cxOf (L2.CX P w) P w K mg base N9 (PySem.Str.ofString "_law_plus") (defScope (top 17)) (He.ga K (PySem.Str.ofString "_law_plus")) cdv A outer s H E).xe := passes_of (X := cxOf (L2.CX P w) P w K mg base N9 (PySem.Str.ofString "_law_plus") (defScope (top 17)) (He.ga K (PySem.Str.ofString "_law_plus")) cdv A outer s H E) rfl
  have hu := hr.units
  have hu1 : (A.deeper (envOfC (PySem.Str.ofString "_law_plus") (defScope (top 17)) s.heap.objs.size (He.ga K (PySem.Str.ofString "_law_plus")) cdv)).units + 65 < cLine := by have := hr.un; omega
  unfold d9
  exact (s_one (s_ret (e_call (IH.f8) hr rfl x.g__law_low x.F8.kp (bN8 x) tk (d_cons (e_bin r_cat m_cat (e_bin r_rep m_rep (e_idx (e_var rfl (Or.inl rfl)) e_int (fun _ _ => rfl)) (e_idx (e_var rfl (Or.inl rfl)) e_int (fun _ _ => rfl))) (e_bin r_rep m_rep (e_idx (e_var rfl (Or.inl rfl)) e_int (fun _ _ => rfl)) (e_idx (e_var rfl (Or.inl rfl)) e_int (fun _ _ => rfl)))) (d_cons (e_bin r_rep m_rep (e_idx (e_var rfl (Or.inl rfl)) e_int (fun _ _ => rfl)) (e_idx (e_var rfl (Or.inl rfl)) e_int (fun _ _ => rfl))) d_nil)) (len_cons (len_cons len_nil)))))
/-- _law_times -/
theorem b10 {Γ : Calls} {k : Nat} (x : Ctx K mg) (hk : 2 ≤ k) (IH : AllOk P w K mg base x k Γ) (cdv : Value) (A : Around) (outer : List PySem.Env) (s : Shared) (H : Hp) (E : XK) (hr : Room k (A.deeper (envOfC (PySem.Str.ofString "_law_times") (defScope (top 18)) s.heap.objs.size (He.ga K (PySem.Str.ofString "_law_times")) cdv))) :
    PSs (cxOf (L2.CX P w) P w K mg base N10 (PySem.Str.ofString "_law_times") (defScope (top 18)) (He.ga K (PySem.Str.ofString "_law_times")) cdv A outer s H E) (defBody (top 18)) (tS K (ca K) (fun cls d _ H => E cls d H) (d10 Γ)) := by
  have tk : Takes (cxOf (L2.CX P w) P w K mg base N10 (PySem.Str.ofString "_law_times") (defScope (top 18)) (He.ga K (PySem.Str.ofString "_law_times")) cdv A outer s H E) (fun cls d _ H => E cls d H) := takes_of rfl rfl rfl rfl
  have po : PassesOwn (model P w) (A.deeper (envOfC (PySem.Str.ofString "_law_times") (defScope (top 18)) s.heap.objs.size (He.ga K (PySem.Str.ofString "_law_times")) cdv)) _ (cxOf (L2.CX P w) P w K mg base N10 (PySem.Str.ofString "_law_times") (defScope (top 18)) (He.ga K (PySem.Str.ofString "_law_times")) cdv A outer s H E).xe := passes_of (X := cxOf (L2.CX P w) P w K mg base N10 (PySem.Str.ofString "_law_times") (defScope (top 18)) (He.ga K (PySem.Str.ofString "_law_times")) cdv A outer s H E) rfl
  have hu := hr.units
  have hu1 : (A.deeper (envOfC (PySem.Str.ofString "_law_times") (defScope (top 18)) s.heap.objs.size (He.ga K (PySem.Str.ofString "_law_times")) cdv)).units + 65 < cLine := by have := hr.un; omega
  unfold d10
  exact (s_one (s_ret (e_call (IH.f8) hr rfl x.g__law_low x.F8.kp (bN8 x) tk (d_cons (e_bin r_rep m_rep (e_idx (e_var rfl (Or.inl rfl)) e_int (fun _ _ => rfl)) (e_idx (e_var rfl (Or.inl rfl)) e_int (fun _ _ => rfl))) (d_cons (e_bin r_rep m_rep (e_idx (e_var rfl (Or.inl rfl)) e_int (fun _ _ => rfl)) (e_idx (e_var rfl (Or.inl rfl)) e_int (fun _ _ => rfl))) d_nil)) (len_cons (len_cons len_nil)))))
/-- _law_dot -/
theorem b11 {Γ : Calls} {k : Nat} (x : Ctx K mg) (hk : 2 ≤ k) (IH : AllOk P w K mg base x k Γ) (cdv : Value) (A : Around) (outer : List PySem.Env) (s : Shared) (H : Hp) (E : XK) (hr : Room k (A.deeper (envOfC (PySem.Str.ofString "_law_dot") (defScope (top 19)) s.heap.objs.size (He.ga K (PySem.Str.ofString "_law_dot")) cdv))) :
    PSs (cxOf (L2.CX P w) P w K mg base N11 (PySem.Str.ofString "_law_dot") (defScope (top 19)) (He.ga K (PySem.Str.ofString "_law_dot")) cdv A outer s H E) (defBody (top 19)) (tS K (ca K) (fun cls d _ H => E cls d H) (d11 Γ)) := by
  have tk : Takes (cxOf (L2.CX P w) P w K mg base N11 (PySem.Str.ofString "_law_dot") (defScope (top 19)) (He.ga K (PySem.Str.ofString "_law_dot")) cdv A outer s H E) (fun cls d _ H => E cls d H) := takes_of rfl rfl rfl rfl
  have po : PassesOwn (model P w) (A.deeper (envOfC (PySem.Str.ofString "_law_dot") (defScope (top 19)) s.heap.objs.size (He.ga K (PySem.Str.ofString "_law_dot")) cdv)) _ (cxOf (L2.CX P w) P w K mg base N11 (PySem.Str.ofString "_law_dot") (defScope (top 19)) (He.ga K (PySem.Str.ofString "_law_dot")) cdv A outer s H E).xe := passes_of (X := cxOf (L2.CX P w) P w K mg base N11 (PySem.Str.ofString "_law_dot") (defScope (top 19)) (He.ga K (PySem.Str.ofString "_law_dot")) cdv A outer s H E) rfl
  have hu := hr.units
  have hu1 : (A.deeper (envOfC (PySem.Str.ofString "_law_dot") (defScope (top 19)) s.heap.objs.size (He.ga K (PySem.Str.ofString "_law_dot")) cdv)).units + 65 < cLine := by have := hr.un; omega
  unfold d11
  exact (s_cons (s_set (i := 2) hN11 rfl (Or.inl rfl) (e_tup (d_cons e_int (d_cons e_int d_nil)) (len_cons (len_cons len_nil))))
    (s_cons (s_for po rfl (i_zip rfl x.b_zip (e_var rfl (Or.inl rfl)) (e_var rfl (Or.inl rfl))) (g_tup rfl (gs_cons (g_name hN11 rfl (Or.inl rfl)) (gs_cons (g_name hN11 rfl (Or.inl rfl)) gs_nil)))
    (s_one (s_if (PW.pt (w_and (t_cmp (r_ne hu) m_ne (e_idx (e_var rfl (Or.inl rfl)) e_int (fun _ _ => rfl)) e_int rfl) (w_and1 (t_cmp (r_ne hu) m_ne (e_idx (e_var rfl (Or.inl rfl)) e_int (fun _ _ => rfl)) e_int rfl))))
    (s_one (s_set (i := 2) hN11 rfl (Or.inl rfl) (e_call (IH.f9) hr rfl x.g__law_plus x.F9.kp (bN9 x) tk (d_cons (e_var rfl (Or.inl rfl)) (d_cons (e_call (IH.f10) hr rfl x.g__law_times x.F10.kp (bN10 x) tk (d_cons (e_var rfl (Or.inl rfl)) (d_cons (e_var rfl (Or.inl rfl)) d_nil)) (len_cons (len_cons len_nil))) d_nil)) (len_cons (len_cons len_nil)))))
    s_nil)))
    (s_one (s_ret (e_var rfl (Or.inl rfl))))))
/-- _law_is_integer -/
theorem b12 {Γ : Calls} {k : Nat} (x : Ctx K mg) (hk : 2 ≤ k) (IH : AllOk P w K mg base x k Γ) (cdv : Value) (A : Around) (outer : List PySem.Env) (s : Shared) (H : Hp) (E : XK) (hr : Room k (A.deeper (envOfC (PySem.Str.ofString "_law_is_integer") (defScope (top 20)) s.heap.objs.size (He.ga K (PySem.Str.ofString "_law_is_integer")) cdv))) :
    PSs (cxOf (L2.CX P w) P w K mg base N12 (PySem.Str.ofString "_law_is_integer") (defScope (top 20)) (He.ga K (PySem.Str.ofString "_law_is_integer")) cdv A outer s H E) (defBody (top 20)) (tS K (ca K) (fun cls d _ H => E cls d H) (d12 Γ)) := by
  have tk : Takes (cxOf (L2.CX P w) P w K mg base N12 (PySem.Str.ofString "_law_is_integer") (defScope (top 20)) (He.ga K (PySem.Str.ofString "_law_is_integer")) cdv A outer s H E) (fun cls d _ H => E cls d H) := takes_of rfl rfl rfl rfl
  have po : PassesOwn (model P w) (A.deeper (envOfC (PySem.Str.ofString "_law_is_integer") (defScope (top 20)) s.heap.objs.size (He.ga K (PySem.Str.ofString "_law_is_integer")) cdv)) _ (cxOf (L2.CX P w) P w K mg base N12 (PySem.Str.ofString "_law_is_integer") (defScope (top 20)) (He.ga K (PySem.Str.ofString "_law_is_integer")) cdv A outer s H E).xe := passes_of (X := cxOf (L2.CX P w) P w K mg base N12 (PySem.Str.ofString "_law_is_integer") (defScope (top 20)) (He.ga K (PySem.Str.ofString "_law_is_integer")) cdv A outer s H E) rfl
  have hu := hr.units
  have hu1 : (A.deeper (envOfC (PySem.Str.ofString "_law_is_integer") (defScope (top 20)) s.heap.objs.size (He.ga K (PySem.Str.ofString "_law_is_integer")) cdv)).units + 65 < cLine := by have := hr.un; omega
  unfold d12
  exact (s_one (s_ret (e_and (e_isi x.C (by decide) rfl x.b_isinstance (e_var rfl (Or.inl rfl)) (c_ty rfl x.b_int (by decide +kernel))) (e_one (e_not (e_isi x.C (by decide) rfl x.b_isinstance (e_var rfl (Or.inl rfl)) (c_ty rfl x.b_bool (by decide +kernel))))))))
/-- _law_is_number -/
theorem b13 {Γ : Calls} {k : Nat} (x : Ctx K mg) (hk : 2 ≤ k) (IH : AllOk P w K mg base x k Γ) (cdv : Value) (A : Around) (outer : List PySem.Env) (s : Shared) (H : Hp) (E : XK) (hr : Room k (A.deeper (envOfC (PySem.Str.ofString "_law_is_number") (defScope (top 21)) s.heap.objs.size (He.ga K (PySem.Str.ofString "_law_is_number")) cdv))) :
    PSs (cxOf (L2.CX P w) P w K mg base N13 (PySem.Str.ofString "_law_is_number") (defScope (top 21)) (He.ga K (PySem.Str.ofString "_law_is_number")) cdv A outer s H E) (defBody (top 21)) (tS K (ca K) (fun cls d _ H => E cls d H) (d13 Γ)) := by
  have tk : Takes (cxOf (L2.CX P w) P w K mg base N13 (PySem.Str.ofString "_law_is_number") (defScope (top 21)) (He.ga K (PySem.Str.ofString "_law_is_number")) cdv A outer s H E) (fun cls d _ H => E cls d H) := takes_of rfl rfl rfl rfl
  have po : PassesOwn (model P w) (A.deeper (envOfC (PySem.Str.ofString "_law_is_number") (defScope (top 21)) s.heap.objs.size (He.ga K (PySem.Str.ofString "_law_is_number")) cdv)) _ (cxOf (L2.CX P w) P w K mg base N13 (PySem.Str.ofString "_law_is_number") (defScope (top 21)) (He.ga K (PySem.Str.ofString "_law_is_number")) cdv A outer s H E).xe := passes_of (X := cxOf (L2.CX P w) P w K mg base N13 (PySem.Str.ofString "_law_is_number") (defScope (top 21)) (He.ga K (PySem.Str.ofString "_law_is_number")) cdv A outer s H E) rfl
  have hu := hr.units
  have hu1 : (A.deeper (envOfC (PySem.Str.ofString "_law_is_number") (defScope (top 21)) s.heap.objs.size (He.ga K (PySem.Str.ofString "_law_is_number")) cdv)).units + 65 < cLine := by have := hr.un; omega
  unfold d13
  exact (s_cons (s_if (PW.pt (w_or (t_not (t_val (e_isi x.C (by decide) rfl x.b_isinstance (e_var rfl (Or.inl rfl)) (c_ty rfl x.b_tuple (by decide +kernel))))) (w_or (t_cmp (r_ne hu) m_ne (e_fnB c_len n_len rfl x.b_len (by decide +kernel) (d_cons (e_var rfl (Or.inl rfl)) d_nil)) e_int rfl) (w_or1 (t_not (t_val (e_fnB (c_all rfl) n_all rfl x.b_all (by decide +kernel) (d_cons (e_lc (own := [(PySem.Str.ofString "a", 1)]) rfl hN13 rfl (i_seq (e_var rfl (Or.inl rfl))) (blkOk_by (by kernel_rfl)) (fun _ _ _ _ _ => (gv_name (by decide) hN13 rfl (Or.inl rfl))) (fun _ _ _ _ _ => pts0) (fun _ _ _ _ _ => (e_call (IH.f12) hr rfl x.g__law_is_integer x.F12.kp (bN12 x) tk0 (d_cons (e_var rfl (Or.inl rfl)) d_nil) (len_cons len_nil)))) d_nil))))))))
    (s_one (s_ret e_bl))
    s_nil)
    (s_one (s_ret (e_and (e_cmp r_gt m_gt (e_idx (e_var rfl (Or.inl rfl)) e_int (fun _ _ => rfl)) e_int rfl) (e_one (e_cmp (r_eq hu) m_eq (e_call (IH.f8) hr rfl x.g__law_low x.F8.kp (bN8 x) tk (d_cons (e_idx (e_var rfl (Or.inl rfl)) e_int (fun _ _ => rfl)) (d_cons (e_idx (e_var rfl (Or.inl rfl)) e_int (fun _ _ => rfl)) d_nil)) (len_cons (len_cons len_nil))) (e_var rfl (Or.inl rfl)) rfl))))))
/-- _law_is_polynomial -/
theorem b14 {Γ : Calls} {k : Nat} (x : Ctx K mg) (hk : 2 ≤ k) (IH : AllOk P w K mg base x k Γ) (cdv : Value) (A : Around) (outer : List PySem.Env) (s : Shared) (H : Hp) (E : XK) (hr : Room k (A.deeper (envOfC (PySem.Str.ofString "_law_is_polynomial") (defScope (top 22)) s.heap.objs.size (He.ga K (PySem.Str.ofString "_law_is_polynomial")) cdv))) :
    PSs (cxOf (L2.CX P w) P w K mg base N14 (PySem.Str.ofString "_law_is_polynomial") (defScope (top 22)) (He.ga K (PySem.Str.ofString "_law_is_polynomial")) cdv A outer s H E) (defBody (top 22)) (tS K (ca K) (fun cls d _ H => E cls d H) (d14 Γ)) := by
  have tk : Takes (cxOf (L2.CX P w) P w K mg base N14 (PySem.Str.ofString "_law_is_polynomial") (defScope (top 22)) (He.ga K (PySem.Str.ofString "_law_is_polynomial")) cdv A outer s H E) (fun cls d _ H => E cls d H) := takes_of rfl rfl rfl rfl
  have po : PassesOwn (model P w) (A.deeper (envOfC (PySem.Str.ofString "_law_is_polynomial") (defScope (top 22)) s.heap.objs.size (He.ga K (PySem.Str.ofString "_law_is_polynomial")) cdv)) _ (cxOf (L2.CX P w) P w K mg base N14 (PySem.Str.ofString "_law_is_polynomial") (defScope (top 22)) (He.ga K (PySem.Str.ofString "_law_is_polynomial")) cdv A outer s H E).xe := passes_of (X := cxOf (L2.CX P w) P w K mg base N14 (PySem.Str.ofString "_law_is_polynomial") (defScope (top 22)) (He.ga K (PySem.Str.ofString "_law_is_polynomial")) cdv A outer s H E) rfl
  have hu := hr.units
  have hu1 : (A.deeper (envOfC (PySem.Str.ofString "_law_is_polynomial") (defScope (top 22)) s.heap.objs.size (He.ga K (PySem.Str.ofString "_law_is_polynomial")) cdv)).units + 65 < cLine := by have := hr.un; omega
  unfold d14
  exact (s_cons (s_if (PW.pt (w_or (t_not (t_val (e_isi x.C (by decide) rfl x.b_isinstance (e_var rfl (Or.inl rfl)) (c_ty rfl x.b_tuple (by decide +kernel))))) (w_or1 (t_not (t_val (e_fnB (c_all rfl) n_all rfl x.b_all (by decide +kernel) (d_cons (e_lc (own := [(PySem.Str.ofString "a", 1)]) rfl hN14 rfl (i_seq (e_var rfl (Or.inl rfl))) (blkOk_by (by kernel_rfl)) (fun _ _ _ _ _ => (gv_name (by decide) hN14 rfl (Or.inl rfl))) (fun _ _ _ _ _ => pts0) (fun _ _ _ _ _ => (e_call (IH.f12) hr rfl x.g__law_is_integer x.F12.kp (bN12 x) tk0 (d_cons (e_var rfl (Or.inl rfl)) d_nil) (len_cons len_nil)))) d_nil)))))))
    (s_one (s_ret e_bl))
    s_nil)
    (s_one (s_ret (e_or (e_cmp (r_eq hu) m_eq (e_fnB c_len n_len rfl x.b_len (by decide +kernel) (d_cons (e_var rfl (Or.inl rfl)) d_nil)) e_int rfl) (e_one (e_cmp (r_ne hu) m_ne (e_idx (e_var rfl (Or.inl rfl)) e_int (fun _ _ => rfl)) e_int rfl))))))
/-- _law_is_broken -/
theorem b15 {Γ : Calls} {k : Nat} (x : Ctx K mg) (hk : 2 ≤ k) (IH : AllOk P w K mg base x k Γ) (cdv : Value) (A : Around) (outer : List PySem.Env) (s : Shared) (H : Hp) (E : XK) (hr : Room k (A.deeper (envOfC (PySem.Str.ofString "_law_is_broken") (defScope (top 23)) s.heap.objs.size (He.ga K (PySem.Str.ofString "_law_is_broken")) cdv))) :
    PSs (cxOf (L2.CX P w) P w K mg base N15 (PySem.Str.ofString "_law_is_broken") (defScope (top 23)) (He.ga K (PySem.Str.ofString "_law_is_broken")) cdv A outer s H E) (defBody (top 23)) (tS K (ca K) (fun cls d _ H => E cls d H) (d15 Γ)) := by
  have tk : Takes (cxOf (L2.CX P w) P w K mg base N15 (PySem.Str.ofString "_law_is_broken") (defScope (top 23)) (He.ga K (PySem.Str.ofString "_law_is_broken")) cdv A outer s H E) (fun cls d _ H => E cls d H) := takes_of rfl rfl rfl rfl
  have po : PassesOwn (model P w) (A.deeper (envOfC (PySem.Str.ofString "_law_is_broken") (defScope (top 23)) s.heap.objs.size (He.ga K (PySem.Str.ofString "_law_is_broken")) cdv)) _ (cxOf (L2.CX P w) P w K mg base N15 (PySem.Str.ofString "_law_is_broken") (defScope (top 23)) (He.ga K (PySem.Str.ofString "_law_is_broken")) cdv A outer s H E).xe := passes_of (X := cxOf (L2.CX P w) P w K mg base N15 (PySem.Str.ofString "_law_is_broken") (defScope (top 23)) (He.ga K (PySem.Str.ofString "_law_is_broken")) cdv A outer s H E) rfl
  have hu := hr.units
  have hu1 : (A.deeper (envOfC (PySem.Str.ofString "_law_is_broken") (defScope (top 23)) s.heap.objs.size (He.ga K (PySem.Str.ofString "_law_is_broken")) cdv)).units + 65 < cLine := by have := hr.un; omega
  unfold d15
  exact (s_cons (s_if (PW.pt (w_or (t_not (t_val (e_isi x.C (by decide) rfl x.b_isinstance (e_var rfl (Or.inl rfl)) (c_ty rfl x.b_tuple (by decide +kernel))))) (w_or1 (t_not (t_val (e_fnB (c_all rfl) n_all rfl x.b_all (by decide +kernel) (d_cons (e_lc (own := [(PySem.Str.ofString "a", 1)]) rfl hN15 rfl (i_seq (e_var rfl (Or.inl rfl))) (blkOk_by (by kernel_rfl)) (fun _ _ _ _ _ => (gv_name (by decide) hN15 rfl (Or.inl rfl))) (fun _ _ _ _ _ => pts0) (fun _ _ _ _ _ => (e_call (IH.f13) hr rfl x.g__law_is_number x.F13.kp (bN13 x) tk0 (d_cons (e_var rfl (Or.inl rfl)) d_nil) (len_cons len_nil)))) d_nil)))))))
    (s_one (s_ret e_bl))
    s_nil)
    (s_one (s_ret (e_or (e_cmp (r_eq hu) m_eq (e_fnB c_len n_len rfl x.b_len (by decide +kernel) (d_cons (e_var rfl (Or.inl rfl)) d_nil)) e_int rfl) (e_one (e_cmp (r_ne hu) m_ne (e_idx (e_idx (e_var rfl (Or.inl rfl)) e_int (fun _ _ => rfl)) e_int (fun _ _ => rfl)) e_int rfl))))))
/-- _law_integer -/
theorem b16 {Γ : Calls} {k : Nat} (x : Ctx K mg) (hk : 2 ≤ k) (IH : AllOk P w K mg base x k Γ) (cdv : Value) (A : Around) (outer : List PySem.Env) (s : Shared) (H : Hp) (E : XK) (hr : Room k (A.deeper (envOfC (PySem.Str.ofString "_law_integer") (defScope (top 24)) s.heap.objs.size (He.ga K (PySem.Str.ofString "_law_integer")) cdv))) :
    PSs (cxOf (L2.CX P w) P w K mg base N16 (PySem.Str.ofString "_law_integer") (defScope (top 24)) (He.ga K (PySem.Str.ofString "_law_integer")) cdv A outer s H E) (defBody (top 24)) (tS K (ca K) (fun cls d _ H => E cls d H) (d16 Γ)) := by
  have tk : Takes (cxOf (L2.CX P w) P w K mg base N16 (PySem.Str.ofString "_law_integer") (defScope (top 24)) (He.ga K (PySem.Str.ofString "_law_integer")) cdv A outer s H E) (fun cls d _ H => E cls d H) := takes_of rfl rfl rfl rfl
  have po : PassesOwn (model P w) (A.deeper (envOfC (PySem.Str.ofString "_law_integer") (defScope (top 24)) s.heap.objs.size (He.ga K (PySem.Str.ofString "_law_integer")) cdv)) _ (cxOf (L2.CX P w) P w K mg base N16 (PySem.Str.ofString "_law_integer") (defScope (top 24)) (He.ga K (PySem.Str.ofString "_law_integer")) cdv A outer s H E).xe := passes_of (X := cxOf (L2.CX P w) P w K mg base N16 (PySem.Str.ofString "_law_integer") (defScope (top 24)) (He.ga K (PySem.Str.ofString "_law_integer")) cdv A outer s H E) rfl
  have hu := hr.units
  have hu1 : (A.deeper (envOfC (PySem.Str.ofString "_law_integer") (defScope (top 24)) s.heap.objs.size (He.ga K (PySem.Str.ofString "_law_integer")) cdv)).units + 65 < cLine := by have := hr.un; omega
  unfold d16
  exact (s_cons (s_set (i := 1) hN16 rfl (Or.inl rfl) (e_idx (f_val (f_lst (d_cons e_int (d_cons e_int (d_cons (e_bin r_pow m_pow e_int e_int) d_nil))) (len_cons (len_cons (len_cons len_nil))))) (e_call (IH.f6) hr rfl x.g__law_take x.F6.kp (bN6 x) tk (d_cons (e_var rfl (Or.inl rfl)) (d_cons e_int d_nil)) (len_cons (len_cons len_nil))) (fun _ _ => rfl)))
    (s_one (s_ret (e_bin r_sub m_sub (e_call (IH.f6) hr rfl x.g__law_take x.F6.kp (bN6 x) tk (d_cons (e_var rfl (Or.inl rfl)) (d_cons (e_bin r_cat m_cat (e_bin r_rep m_rep e_int (e_var rfl (Or.inl rfl))) e_int) d_nil)) (len_cons (len_cons len_nil))) (e_var rfl (Or.inl rfl))))))
/-- _law_row -/
theorem b17 {Γ : Calls} {k : Nat} (x : Ctx K mg) (hk : 2 ≤ k) (IH : AllOk P w K mg base x k Γ) (cdv : Value) (A : Around) (outer : List PySem.Env) (s : Shared) (H : Hp) (E : XK) (hr : Room k (A.deeper (envOfC (PySem.Str.ofString "_law_row") (defScope (top 25)) s.heap.objs.size (He.ga K (PySem.Str.ofString "_law_row")) cdv))) :
    PSs (cxOf (L2.CX P w) P w K mg base N17 (PySem.Str.ofString "_law_row") (defScope (top 25)) (He.ga K (PySem.Str.ofString "_law_row")) cdv A outer s H E) (defBody (top 25)) (tS K (ca K) (fun cls d _ H => E cls d H) (d17 Γ)) := by
  have tk : Takes (cxOf (L2.CX P w) P w K mg base N17 (PySem.Str.ofString "_law_row") (defScope (top 25)) (He.ga K (PySem.Str.ofString "_law_row")) cdv A outer s H E) (fun cls d _ H => E cls d H) := takes_of rfl rfl rfl rfl
  have po : PassesOwn (model P w) (A.deeper (envOfC (PySem.Str.ofString "_law_row") (defScope (top 25)) s.heap.objs.size (He.ga K (PySem.Str.ofString "_law_row")) cdv)) _ (cxOf (L2.CX P w) P w K mg base N17 (PySem.Str.ofString "_law_row") (defScope (top 25)) (He.ga K (PySem.Str.ofString "_law_row")) cdv A outer s H E).xe := passes_of (X := cxOf (L2.CX P w) P w K mg base N17 (PySem.Str.ofString "_law_row") (defScope (top 25)) (He.ga K (PySem.Str.ofString "_law_row")) cdv A outer s H E) rfl
  have hu := hr.units
  have hu1 : (A.deeper (envOfC (PySem.Str.ofString "_law_row") (defScope (top 25)) s.heap.objs.size (He.ga K (PySem.Str.ofString "_law_row")) cdv)).units + 65 < cLine := by have := hr.un; omega
  unfold d17
  exact (s_cons (s_set (i := 2) hN17 rfl (Or.inl rfl) (f_new (f_lst d_nil len_nil)))
    (s_cons (s_for po rfl (i_rng1 rfl x.b_range (e_call (IH.f6) hr rfl x.g__law_take x.F6.kp (bN6 x) tk (d_cons (e_var rfl (Or.inl rfl)) (d_cons e_int d_nil)) (len_cons (len_cons len_nil)))) (g_name hN17 rfl (Or.inl rfl))
    (s_cons (s_set (i := 4) hN17 rfl (Or.inl rfl) (e_call (IH.f16) hr rfl x.g__law_integer x.F16.kp (bN16 x) tk (d_cons (e_var rfl (Or.inl rfl)) d_nil) (len_cons len_nil)))
    (s_cons (s_set (i := 4) hN17 rfl (Or.inl rfl) (e_ifExp (PW.pt (w_or (t_cmp r_gt m_gt (e_var rfl (Or.inl rfl)) e_int rfl) (w_or1 (t_cmp (r_ne hu) m_ne (e_var rfl (Or.inl rfl)) e_int rfl)))) (e_var rfl (Or.inl rfl)) e_int))
    (s_one (s_expr (e_app (e_var rfl (Or.inl rfl)) (e_ifExp (t_val (e_var rfl (Or.inl rfl))) (e_var rfl (Or.inl rfl)) (e_call (IH.f8) hr rfl x.g__law_low x.F8.kp (bN8 x) tk (d_cons (e_var rfl (Or.inl rfl)) (d_cons (e_bin r_cat m_cat e_int (e_fnB c_abs n_abs rfl x.b_abs (by decide +kernel) (d_cons (e_call (IH.f16) hr rfl x.g__law_integer x.F16.kp (bN16 x) tk (d_cons (e_var rfl (Or.inl rfl)) d_nil) (len_cons len_nil)) d_nil))) d_nil)) (len_cons (len_cons len_nil))))))))))
    (s_one (s_ret (e_fnT c_tuple n_tuple rfl x.b_tuple (by decide +kernel) (d_cons (e_var rfl (Or.inl rfl)) d_nil))))))
/-- _law_bent -/
theorem b18 {Γ : Calls} {k : Nat} (x : Ctx K mg) (hk : 2 ≤ k) (IH : AllOk P w K mg base x k Γ) (cdv : Value) (A : Around) (outer : List PySem.Env) (s : Shared) (H : Hp) (E : XK) (hr : Room k (A.deeper (envOfC (PySem.Str.ofString "_law_bent") (defScope (top 26)) s.heap.objs.size (He.ga K (PySem.Str.ofString "_law_bent")) cdv))) :
    PSs (cxOf (L2.CX P w) P w K mg base N18 (PySem.Str.ofString "_law_bent") (defScope (top 26)) (He.ga K (PySem.Str.ofString "_law_bent")) cdv A outer s H E) (defBody (top 26)) (tS K (ca K) (fun cls d _ H => E cls d H) (d18 Γ)) := by
  have tk : Takes (cxOf (L2.CX P w) P w K mg base N18 (PySem.Str.ofString "_law_bent") (defScope (top 26)) (He.ga K (PySem.Str.ofString "_law_bent")) cdv A outer s H E) (fun cls d _ H => E cls d H) := takes_of rfl rfl rfl rfl
  have po : PassesOwn (model P w) (A.deeper (envOfC (PySem.Str.ofString "_law_bent") (defScope (top 26)) s.heap.objs.size (He.ga K (PySem.Str.ofString "_law_bent")) cdv)) _ (cxOf (L2.CX P w) P w K mg base N18 (PySem.Str.ofString "_law_bent") (defScope (top 26)) (He.ga K (PySem.Str.ofString "_law_bent")) cdv A outer s H E).xe := passes_of (X := cxOf (L2.CX P w) P w K mg base N18 (PySem.Str.ofString "_law_bent") (defScope (top 26)) (He.ga K (PySem.Str.ofString "_law_bent")) cdv A outer s H E) rfl
  have hu := hr.units
  have hu1 : (A.deeper (envOfC (PySem.Str.ofString "_law_bent") (defScope (top 26)) s.heap.objs.size (He.ga K (PySem.Str.ofString "_law_bent")) cdv)).units + 65 < cLine := by have := hr.un; omega
  unfold d18
  exact (s_cons (s_set (i := 2) hN18 rfl (Or.inl rfl) (f_new (f_lst (d_cons e_non (d_cons e_bl (d_cons e_bl (d_cons e_str (d_cons (e_tup (d_cons e_int d_nil) (len_cons len_nil)) (d_cons (f_val (f_lst (d_cons e_int d_nil) (len_cons len_nil))) (d_cons (e_tup (d_cons e_int (d_cons e_int d_nil)) (len_cons (len_cons len_nil))) (d_cons (e_tup (d_cons e_int (d_cons e_int d_nil)) (len_cons (len_cons len_nil))) (d_cons (e_tup (d_cons e_int (d_cons e_int d_nil)) (len_cons (len_cons len_nil))) (d_cons (e_tup (d_cons e_int (d_cons (e_un r_neg m_neg e_int) d_nil)) (len_cons (len_cons len_nil))) (d_cons (e_tup (d_cons e_int (d_cons e_int d_nil)) (len_cons (len_cons len_nil))) (d_cons (e_tup (d_cons e_int (d_cons e_int d_nil)) (len_cons (len_cons len_nil))) (d_cons e_int (d_cons e_int (d_cons (e_tup (d_cons (e_tup (d_cons e_int (d_cons e_int d_nil)) (len_cons (len_cons len_nil))) d_nil) (len_cons len_nil)) d_nil))))))))))))))) (len_cons (len_cons (len_cons (len_cons (len_cons (len_cons (len_cons (len_cons (len_cons (len_cons (len_cons (len_cons (len_cons (len_cons (len_cons len_nil))))))))))))))))))
    (s_cons (s_expr (e_app (e_var rfl (Or.inl rfl)) (e_tup (d_cons e_bl (d_cons e_int d_nil)) (len_cons (len_cons len_nil)))))
    (s_cons (s_set (i := 3) hN18 rfl (Or.inl rfl) (e_call (IH.f6) hr rfl x.g__law_take x.F6.kp (bN6 x) tk (d_cons (e_var rfl (Or.inl rfl)) (d_cons e_int d_nil)) (len_cons (len_cons len_nil))))
    (s_cons (s_if (PW.pt (w_and (t_cmp r_lt m_lt (e_var rfl (Or.inl rfl)) e_int rfl) (w_and1 (t_cmp (r_ne hu) m_ne (e_var rfl (Or.inl rfl)) (e_tup d_nil len_nil) rfl))))
    (s_cons (s_set (i := 4) hN18 rfl (Or.inl rfl) (e_call (IH.f6) hr rfl x.g__law_take x.F6.kp (bN6 x) tk (d_cons (e_var rfl (Or.inl rfl)) (d_cons (e_fnB c_len n_len rfl x.b_len (by decide +kernel) (d_cons (e_var rfl (Or.inl rfl)) d_nil)) d_nil)) (len_cons (len_cons len_nil))))
    (s_one (s_ret (e_bin r_cat m_cat (e_bin r_cat m_cat (e_sl (e_var rfl (Or.inl rfl)) o_none (o_some (e_var rfl (Or.inl rfl)))) (e_tup (d_cons (e_idx (e_var rfl (Or.inl rfl)) (e_call (IH.f6) hr rfl x.g__law_take x.F6.kp (bN6 x) tk (d_cons (e_var rfl (Or.inl rfl)) (d_cons e_int d_nil)) (len_cons (len_cons len_nil))) (fun _ _ => rfl)) d_nil) (len_cons len_nil))) (e_sl (e_var rfl (Or.inl rfl)) (o_some (e_bin r_cat m_cat (e_var rfl (Or.inl rfl)) e_int)) o_none)))))
    s_nil)
    (s_cons (s_if (t_cmp (r_eq hu) m_eq (e_var rfl (Or.inl rfl)) e_int rfl)
    (s_one (s_ret (e_bin r_cat m_cat (e_tup (d_cons (e_idx (e_var rfl (Or.inl rfl)) (e_call (IH.f6) hr rfl x.g__law_take x.F6.kp (bN6 x) tk (d_cons (e_var rfl (Or.inl rfl)) (d_cons e_int d_nil)) (len_cons (len_cons len_nil))) (fun _ _ => rfl)) d_nil) (len_cons len_nil)) (e_var rfl (Or.inl rfl)))))
    s_nil)
    (s_cons (s_set (i := 5) hN18 rfl (Or.inl rfl) (f_val (f_lst (d_cons (f_val (f_fnT c_list n_list rfl x.b_list (by decide +kernel) (d_cons (e_var rfl (Or.inl rfl)) d_nil))) (d_cons (e_bin r_cat m_cat (e_tup (d_cons e_int d_nil) (len_cons len_nil)) (e_var rfl (Or.inl rfl))) (d_cons (e_bin r_cat m_cat (e_tup (d_cons (e_tup (d_cons e_int (d_cons e_int d_nil)) (len_cons (len_cons len_nil))) d_nil) (len_cons len_nil)) (e_var rfl (Or.inl rfl))) (d_cons e_non (d_cons e_str (d_cons e_int (d_cons (e_tup (d_cons (e_var rfl (Or.inl rfl)) d_nil) (len_cons len_nil)) (d_cons (f_val (f_lst d_nil len_nil)) (d_cons e_str (d_cons e_dct0 (d_cons (e_bin r_cat m_cat (e_var rfl (Or.inl rfl)) (e_tup (d_cons e_non d_nil) (len_cons len_nil))) d_nil))))))))))) (len_cons (len_cons (len_cons (len_cons (len_cons (len_cons (len_cons (len_cons (len_cons (len_cons (len_cons len_nil))))))))))))))
    (s_one (s_ret (e_idx (e_var rfl (Or.inl rfl)) (e_call (IH.f6) hr rfl x.g__law_take x.F6.kp (bN6 x) tk (d_cons (e_var rfl (Or.inl rfl)) (d_cons e_int d_nil)) (len_cons (len_cons len_nil))) (fun _ _ => rfl))))))))))
/-- law -/
theorem b19 {Γ : Calls} {k : Nat} (x : Ctx K mg) (hk : 2 ≤ k) (IH : AllOk P w K mg base x k Γ) (cdv : Value) (A : Around) (outer : List PySem.Env) (s : Shared) (H : Hp) (E : XK) (hr : Room k (A.deeper (envOfC (PySem.Str.ofString "law") (defScope (top 27)) s.heap.objs.size (He.ga K (PySem.Str.ofString "law")) cdv))) :
    PSs (cxOf (L2.CX P w) P w K mg base N19 (PySem.Str.ofString "law") (defScope (top 27)) (He.ga K (PySem.Str.ofString "law")) cdv A outer s H E) (defBody (top 27)) (tS K (ca K) (fun cls d _ H => E cls d H) (d19 Γ)) := by
  have tk : Takes (cxOf (L2.CX P w) P w K mg base N19 (PySem.Str.ofString "law") (defScope (top 27)) (He.ga K (PySem.Str.ofString "law")) cdv A outer s H E) (fun cls d _ H => E cls d H) := takes_of rfl rfl rfl rfl
  have po : PassesOwn (model P w) (A.deeper (envOfC (PySem.Str.ofString "law") (defScope (top 27)) s.heap.objs.size (He.ga K (PySem.Str.ofString "law")) cdv)) _ (cxOf (L2.CX P w) P w K mg base N19 (PySem.Str.ofString "law") (defScope (top 27)) (He.ga K (PySem.Str.ofString "law")) cdv A outer s H E).xe := passes_of (X := cxOf (L2.CX P w) P w K mg base N19 (PySem.Str.ofString "law") (defScope (top 27)) (He.ga K (PySem.Str.ofString "law")) cdv A outer s H E) rfl
  have hu := hr.units
  have hu1 : (A.deeper (envOfC (PySem.Str.ofString "law") (defScope (top 27)) s.heap.objs.size (He.ga K (PySem.Str.ofString "law")) cdv)).units + 65 < cLine := by have := hr.un; omega
  unfold d19
  exact (s_cons (s_set (i := 1) hN19 rfl (Or.inl rfl) (f_new (f_cat (f_val (f_lst (d_cons e_int (d_cons e_int (d_cons e_int d_nil))) (len_cons (len_cons (len_cons len_nil))))) (f_val (f_fnT c_list n_list rfl x.b_list (by decide +kernel) (d_cons (e_var rfl (Or.inl rfl)) d_nil))))))
    (s_cons (s_for po rfl (i_rng1 rfl x.b_range e_int) (g_name hN19 rfl (Or.inl rfl))
    (s_cons (s_par (i := 3) (j := 4) rfl hN19 rfl rfl (by decide) rfl rfl (e_call (IH.f17) hr rfl x.g__law_row x.F17.kp (bN17 x) tk (d_cons (e_var rfl (Or.inl rfl)) (d_cons e_bl d_nil)) (len_cons (len_cons len_nil))) (e_call (IH.f17) hr rfl x.g__law_row x.F17.kp (bN17 x) tk (d_cons (e_var rfl (Or.inl rfl)) (d_cons e_bl d_nil)) (len_cons (len_cons len_nil))) rfl)
    (s_cons (s_set (i := 5) hN19 rfl (Or.inl rfl) (f_val (f_lst (d_cons (e_call (IH.f2) hr rfl x.g_is_polynomial x.F2.kp (bN2 x) tk (d_cons (e_var rfl (Or.inl rfl)) d_nil) (len_cons len_nil)) (d_cons (e_callP0 (IH.f2) hr rfl x.g_is_polynomial x.F2.kp (bindsP x.F2 (ks := [PySem.Str.ofString "told"]) (n := 0) (js := [0]) (fun _ _ _ _ _ _ us ws hl hk => match us, hl with | [], _ => match ws, hk with | [_], _ => rfl)) tk (k_cons (e_var rfl (Or.inl rfl)) k_nil) (len_cons len_nil) (fun xs hl => match xs, hl with | [_], _ => rfl)) d_nil)) (len_cons (len_cons len_nil)))))
    (s_cons (s_set (i := 5) hN19 rfl (Or.inl rfl) (e_bin r_cat m_cat (e_var rfl (Or.inl rfl)) (f_val (f_lst (d_cons (e_call (IH.f3) hr rfl x.g_is_broken x.F3.kp (bN3 x) tk (d_cons (e_var rfl (Or.inl rfl)) d_nil) (len_cons len_nil)) (d_cons (e_callP0 (IH.f3) hr rfl x.g_is_broken x.F3.kp (bindsP x.F3 (ks := [PySem.Str.ofString "told"]) (n := 0) (js := [0]) (fun _ _ _ _ _ _ us ws hl hk => match us, hl with | [], _ => match ws, hk with | [_], _ => rfl)) tk (k_cons (e_var rfl (Or.inl rfl)) k_nil) (len_cons len_nil) (fun xs hl => match xs, hl with | [_], _ => rfl)) d_nil)) (len_cons (len_cons len_nil))))))
    (s_cons (s_if (t_not (t_val (e_call (IH.f7) hr rfl x.g__law_same x.F7.kp (bN7 x) tk (d_cons (e_var rfl (Or.inl rfl)) (d_cons (e_bin r_rep m_rep (f_val (f_lst (d_cons e_bl d_nil) (len_cons len_nil))) e_int) d_nil)) (len_cons (len_cons len_nil)))))
    (s_one (s_ret e_bl))
    s_nil)
    (s_cons (s_set (i := 6) hN19 rfl (Or.inl rfl) (e_bin r_sub m_sub (e_fnB c_len n_len rfl x.b_len (by decide +kernel) (d_cons (e_var rfl (Or.inl rfl)) d_nil)) e_int))
    (s_cons (s_if (t_not (t_val (e_call (IH.f7) hr rfl x.g__law_same x.F7.kp (bN7 x) tk (d_cons (f_val (f_lst (d_cons (e_call (IH.f5) hr rfl x.g_degree x.F5.kp (bN5 x) tk (d_cons (e_var rfl (Or.inl rfl)) d_nil) (len_cons len_nil)) (d_cons (e_callP0 (IH.f5) hr rfl x.g_degree x.F5.kp (bindsP x.F5 (ks := [PySem.Str.ofString "f"]) (n := 0) (js := [0]) (fun _ _ _ _ _ _ us ws hl hk => match us, hl with | [], _ => match ws, hk with | [_], _ => rfl)) tk (k_cons (e_var rfl (Or.inl rfl)) k_nil) (len_cons len_nil) (fun xs hl => match xs, hl with | [_], _ => rfl)) d_nil)) (len_cons (len_cons len_nil)))) (d_cons (f_val (f_lst (d_cons (e_var rfl (Or.inl rfl)) (d_cons (e_var rfl (Or.inl rfl)) d_nil)) (len_cons (len_cons len_nil)))) d_nil)) (len_cons (len_cons len_nil)))))
    (s_one (s_ret e_bl))
    s_nil)
    (s_one (s_for po rfl (i_rng1 rfl x.b_range e_int) (g_name hN19 rfl (Or.inl rfl))
    (s_cons (s_set (i := 8) hN19 rfl (Or.inl rfl) (e_call (IH.f18) hr rfl x.g__law_bent x.F18.kp (bN18 x) tk (d_cons (e_var rfl (Or.inl rfl)) (d_cons (e_idx (f_val (f_lst (d_cons (e_var rfl (Or.inl rfl)) (d_cons (e_var rfl (Or.inl rfl)) d_nil)) (len_cons (len_cons len_nil)))) (e_call (IH.f6) hr rfl x.g__law_take x.F6.kp (bN6 x) tk (d_cons (e_var rfl (Or.inl rfl)) (d_cons e_int d_nil)) (len_cons (len_cons len_nil))) (fun _ _ => rfl)) d_nil)) (len_cons (len_cons len_nil))))
    (s_cons (s_set (i := 9) hN19 rfl (Or.inl rfl) (f_val (f_lst (d_cons (e_call (IH.f14) hr rfl x.g__law_is_polynomial x.F14.kp (bN14 x) tk (d_cons (e_var rfl (Or.inl rfl)) d_nil) (len_cons len_nil)) (d_cons (e_call (IH.f15) hr rfl x.g__law_is_broken x.F15.kp (bN15 x) tk (d_cons (e_var rfl (Or.inl rfl)) d_nil) (len_cons len_nil)) d_nil)) (len_cons (len_cons len_nil)))))
    (s_one (s_if (t_not (t_val (e_call (IH.f7) hr rfl x.g__law_same x.F7.kp (bN7 x) tk (d_cons (f_val (f_lst (d_cons (e_call (IH.f2) hr rfl x.g_is_polynomial x.F2.kp (bN2 x) tk (d_cons (e_var rfl (Or.inl rfl)) d_nil) (len_cons len_nil)) (d_cons (e_call (IH.f3) hr rfl x.g_is_broken x.F3.kp (bN3 x) tk (d_cons (e_var rfl (Or.inl rfl)) d_nil) (len_cons len_nil)) d_nil)) (len_cons (len_cons len_nil)))) (d_cons (e_var rfl (Or.inl rfl)) d_nil)) (len_cons (len_cons len_nil)))))
    (s_one (s_ret e_bl))
    s_nil)))))))))))))
    (s_one (s_ret e_bl))))
theorem all (x : Ctx K mg) : ∀ n, AllOk P w K mg base x (n + 2) (calls n)
  | 0 => ⟨fn_none fun _ _ => rfl, fn_none fun _ _ => rfl, fn_none fun _ _ => rfl, fn_none fun _ _ => rfl, fn_none fun _ _ => rfl, fn_none fun _ _ => rfl, fn_none fun _ _ => rfl, fn_none fun _ _ => rfl, fn_none fun _ _ => rfl, fn_none fun _ _ => rfl, fn_none fun _ _ => rfl, fn_none fun _ _ => rfl, fn_none fun _ _ => rfl, fn_none fun _ _ => rfl, fn_none fun _ _ => rfl, fn_none fun _ _ => rfl, fn_none fun _ _ => rfl, fn_none fun _ _ => rfl, fn_none fun _ _ => rfl, fn_none fun _ _ => rfl⟩
  | n + 1 => by
    have IH := all x n
    exact ⟨fn_tidy x.F0 sc0 (fun _ _ _ => rfl) (b0 x (Nat.le_add_left 2 n) IH), fn_tidy x.F1 sc1 (fun _ _ _ => rfl) (b1 x (Nat.le_add_left 2 n) IH), fn_tidy x.F2 sc2 (fun _ _ _ => rfl) (b2 x (Nat.le_add_left 2 n) IH), fn_tidy x.F3 sc3 (fun _ _ _ => rfl) (b3 x (Nat.le_add_left 2 n) IH), fn_tidy x.F4 sc4 (fun _ _ _ => rfl) (b4 x (Nat.le_add_left 2 n) IH), fn_tidy x.F5 sc5 (fun _ _ _ => rfl) (b5 x (Nat.le_add_left 2 n) IH), fn_tidy x.F6 sc6 (fun _ _ _ => rfl) (b6 x (Nat.le_add_left 2 n) IH), fn_tidy x.F7 sc7 (fun _ _ _ => rfl) (b7 x (Nat.le_add_left 2 n) IH), fn_tidy x.F8 sc8 (fun _ _ _ => rfl) (b8 x (Nat.le_add_left 2 n) IH), fn_tidy x.F9 sc9 (fun _ _ _ => rfl) (b9 x (Nat.le_add_left 2 n) IH), fn_tidy x.F10 sc10 (fun _ _ _ => rfl) (b10 x (Nat.le_add_left 2 n) IH), fn_tidy x.F11 sc11 (fun _ _ _ => rfl) (b11 x (Nat.le_add_left 2 n) IH), fn_tidy x.F12 sc12 (fun _ _ _ => rfl) (b12 x (Nat.le_add_left 2 n) IH), fn_tidy x.F13 sc13 (fun _ _ _ => rfl) (b13 x (Nat.le_add_left 2 n) IH), fn_tidy x.F14 sc14 (fun _ _ _ => rfl) (b14 x (Nat.le_add_left 2 n) IH), fn_tidy x.F15 sc15 (fun _ _ _ => rfl) (b15 x (Nat.le_add_left 2 n) IH), fn_tidy x.F16 sc16 (fun _ _ _ => rfl) (b16 x (Nat.le_add_left 2 n) IH), fn_tidy x.F17 sc17 (fun _ _ _ => rfl) (b17 x (Nat.le_add_left 2 n) IH), fn_tidy x.F18 sc18 (fun _ _ _ => rfl) (b18 x (Nat.le_add_left 2 n) IH), fn_tidy x.F19 sc19 (fun _ _ _ => rfl) (b19 x (Nat.le_add_left 2 n) IH)⟩
end
/-! ### the head -/
def df0 : He.DefD := ⟨((PySem.Str.ofString "is_integer"), none), (PySem.Str.ofString "is_integer"), (PySem.Str.ofString "is_integer"), defArgs (top 6), defBody (top 6), defScope (top 6), [], []⟩
def df1 : He.DefD := ⟨((PySem.Str.ofString "is_number"), none), (PySem.Str.ofString "is_number"), (PySem.Str.ofString "is_number"), defArgs (top 7), defBody (top 7), defScope (top 7), [], []⟩
def df2 : He.DefD := ⟨((PySem.Str.ofString "is_polynomial"), none), (PySem.Str.ofString "is_polynomial"), (PySem.Str.ofString "is_polynomial"), defArgs (top 9), defBody (top 9), defScope (top 9), [], []⟩
def df3 : He.DefD := ⟨((PySem.Str.ofString "is_broken"), none), (PySem.Str.ofString "is_broken"), (PySem.Str.ofString "is_broken"), defArgs (top 10), defBody (top 10), defScope (top 10), [], []⟩
def df4 : He.DefD := ⟨((PySem.Str.ofString "check_polynomial"), none), (PySem.Str.ofString "check_polynomial"), (PySem.Str.ofString "check_polynomial"), defArgs (top 11), defBody (top 11), defScope (top 11), [], []⟩
def df5 : He.DefD := ⟨((PySem.Str.ofString "degree"), none), (PySem.Str.ofString "degree"), (PySem.Str.ofString "degree"), defArgs (top 12), defBody (top 12), defScope (top 12), [], []⟩
def df6 : He.DefD := ⟨((PySem.Str.ofString "_law_take"), none), (PySem.Str.ofString "_law_take"), (PySem.Str.ofString "_law_take"), defArgs (top 14), defBody (top 14), defScope (top 14), [], []⟩
def df7 : He.DefD := ⟨((PySem.Str.ofString "_law_same"), none), (PySem.Str.ofString "_law_same"), (PySem.Str.ofString "_law_same"), defArgs (top 15), defBody (top 15), defScope (top 15), [], []⟩
def df8 : He.DefD := ⟨((PySem.Str.ofString "_law_low"), none), (PySem.Str.ofString "_law_low"), (PySem.Str.ofString "_law_low"), defArgs (top 16), defBody (top 16), defScope (top 16), [], []⟩
def df9 : He.DefD := ⟨((PySem.Str.ofString "_law_plus"), none), (PySem.Str.ofString "_law_plus"), (PySem.Str.ofString "_law_plus"), defArgs (top 17), defBody (top 17), defScope (top 17), [], []⟩
def df10 : He.DefD := ⟨((PySem.Str.ofString "_law_times"), none), (PySem.Str.ofString "_law_times"), (PySem.Str.ofString "_law_times"), defArgs (top 18), defBody (top 18), defScope (top 18), [], []⟩
def df11 : He.DefD := ⟨((PySem.Str.ofString "_law_dot"), none), (PySem.Str.ofString "_law_dot"), (PySem.Str.ofString "_law_dot"), defArgs (top 19), defBody (top 19), defScope (top 19), [], []⟩
def df12 : He.DefD := ⟨((PySem.Str.ofString "_law_is_integer"), none), (PySem.Str.ofString "_law_is_integer"), (PySem.Str.ofString "_law_is_integer"), defArgs (top 20), defBody (top 20), defScope (top 20), [], []⟩
def df13 : He.DefD := ⟨((PySem.Str.ofString "_law_is_number"), none), (PySem.Str.ofString "_law_is_number"), (PySem.Str.ofString "_law_is_number"), defArgs (top 21), defBody (top 21), defScope (top 21), [], []⟩
def df14 : He.DefD := ⟨((PySem.Str.ofString "_law_is_polynomial"), none), (PySem.Str.ofString "_law_is_polynomial"), (PySem.Str.ofString "_law_is_polynomial"), defArgs (top 22), defBody (top 22), defScope (top 22), [], []⟩
def df15 : He.DefD := ⟨((PySem.Str.ofString "_law_is_broken"), none), (PySem.Str.ofString "_law_is_broken"), (PySem.Str.ofString "_law_is_broken"), defArgs (top 23), defBody (top 23), defScope (top 23), [], []⟩
def df16 : He.DefD := ⟨((PySem.Str.ofString "_law_integer"), none), (PySem.Str.ofString "_law_integer"), (PySem.Str.ofString "_law_integer"), defArgs (top 24), defBody (top 24), defScope (top 24), [], []⟩
def df17 : He.DefD := ⟨((PySem.Str.ofString "_law_row"), none), (PySem.Str.ofString "_law_row"), (PySem.Str.ofString "_law_row"), defArgs (top 25), defBody (top 25), defScope (top 25), [], []⟩
def df18 : He.DefD := ⟨((PySem.Str.ofString "_law_bent"), none), (PySem.Str.ofString "_law_bent"), (PySem.Str.ofString "_law_bent"), defArgs (top 26), defBody (top 26), defScope (top 26), [], []⟩
def df19 : He.DefD := ⟨((PySem.Str.ofString "law"), none), (PySem.Str.ofString "law"), (PySem.Str.ofString "law"), defArgs (top 27), defBody (top 27), defScope (top 27), [], []⟩
def dfI : He.DefD := ⟨((PySem.Str.ofString "WorthError"), some (PySem.Str.ofString "__init__")), (PySem.Str.ofString "__init__"), (PySem.Str.ofString "WorthError.__init__"), defArgs (clsM (top 2)), defBody (clsM (top 2)), defScope (clsM (top 2)), [], []⟩
def dfs : List He.DefD := [df0, df1, df2, df3, df4, df5, df6, df7, df8, df9, df10, df11, df12, df13, df14, df15, df16, df17, df18, df19, dfI]
def fas : List He.Fa := [.glo (PySem.Str.ofString "is_integer"), .glo (PySem.Str.ofString "is_number"), .glo (PySem.Str.ofString "is_polynomial"), .glo (PySem.Str.ofString "is_broken"), .glo (PySem.Str.ofString "check_polynomial"), .glo (PySem.Str.ofString "degree"), .glo (PySem.Str.ofString "_law_take"), .glo (PySem.Str.ofString "_law_same"), .glo (PySem.Str.ofString "_law_low"), .glo (PySem.Str.ofString "_law_plus"), .glo (PySem.Str.ofString "_law_times"), .glo (PySem.Str.ofString "_law_dot"), .glo (PySem.Str.ofString "_law_is_integer"), .glo (PySem.Str.ofString "_law_is_number"), .glo (PySem.Str.ofString "_law_is_polynomial"), .glo (PySem.Str.ofString "_law_is_broken"), .glo (PySem.Str.ofString "_law_integer"), .glo (PySem.Str.ofString "_law_row"), .glo (PySem.Str.ofString "_law_bent"), .glo (PySem.Str.ofString "law"), .glo (PySem.Str.ofString "WorthError"), .glo (PySem.Str.ofString "InvalidPolynomial"), .free (PySem.Str.ofString "ValueError"), .free (PySem.Str.ofString "abs"), .free (PySem.Str.ofString "all"), .free (PySem.Str.ofString "bool"), .free (PySem.Str.ofString "int"), .free (PySem.Str.ofString "isinstance"), .free (PySem.Str.ofString "len"), .free (PySem.Str.ofString "list"), .free (PySem.Str.ofString "range"), .free (PySem.Str.ofString "str"), .free (PySem.Str.ofString "tuple"), .free (PySem.Str.ofString "zip")]
def fx (K : PySem.W.Frag) : Bool := (excB K (ca K) anc (He.ma K (He.ga K (PySem.Str.ofString "WorthError")) (PySem.Str.ofString "__init__")) && (bltB K (PySem.Str.ofString "gcd") "math.gcd" && (((He.Fa.glo (PySem.Str.ofString "ZERO")).ok K && He.tupB K (PySem.Str.ofString "ZERO") [.int (0), .int (1)]) && true)))
abbrev R : PySem.W.OpenRow := PySem.W.OpenLaw.row PySem.Challenge.rw_wholerates_k03_whole_polynomials_judged
abbrev hk : PySem.W.Hook := hookX 6 fas dfs fx
def ob (s : PySem.W.SharedT) : AlX := obsXG 6 fas dfs fx (HandSHeadRun.getT s)
theorem ob_eq (s : PySem.W.SharedT) : ob s = hk.obs s.abs := obsXG_eq (HandSHeadRun.getT_eq s)
def loose0 : List Str := [(PySem.Str.ofString "WorthError"), (PySem.Str.ofString "InvalidPolynomial"), (PySem.Str.ofString "ZERO"), (PySem.Str.ofString "is_integer"), (PySem.Str.ofString "is_number"), (PySem.Str.ofString "is_polynomial"), (PySem.Str.ofString "is_broken"), (PySem.Str.ofString "check_polynomial"), (PySem.Str.ofString "degree"), (PySem.Str.ofString "_law_take"), (PySem.Str.ofString "_law_same"), (PySem.Str.ofString "_law_low"), (PySem.Str.ofString "_law_plus"), (PySem.Str.ofString "_law_times"), (PySem.Str.ofString "_law_dot"), (PySem.Str.ofString "_law_is_integer"), (PySem.Str.ofString "_law_is_number"), (PySem.Str.ofString "_law_is_polynomial"), (PySem.Str.ofString "_law_is_broken"), (PySem.Str.ofString "_law_integer"), (PySem.Str.ofString "_law_row"), (PySem.Str.ofString "_law_bent")]
abbrev loose : List Str := loose0
theorem run (w : World) : HandSHeadRun.RunEqI R (PySem.W.view R.prog [0, 27]) hk ob 60000 loose w := by
  unfold HandSHeadRun.RunEqI
  kernel_rfl
theorem ctx {K : PySem.W.Frag} {h : Heap} {mg : Str → Option Value} (X : K.In h) (G : h.Ns mainGlobals mg) (c : SaysX fas dfs fx K) : Nonempty (Ctx K mg) := by
  obtain ⟨fd0, F0⟩ := c.d.def_ 0 (d := df0) rfl
  obtain ⟨fd1, F1⟩ := c.d.def_ 1 (d := df1) rfl
  obtain ⟨fd2, F2⟩ := c.d.def_ 2 (d := df2) rfl
  obtain ⟨fd3, F3⟩ := c.d.def_ 3 (d := df3) rfl
  obtain ⟨fd4, F4⟩ := c.d.def_ 4 (d := df4) rfl
  obtain ⟨fd5, F5⟩ := c.d.def_ 5 (d := df5) rfl
  obtain ⟨fd6, F6⟩ := c.d.def_ 6 (d := df6) rfl
  obtain ⟨fd7, F7⟩ := c.d.def_ 7 (d := df7) rfl
  obtain ⟨fd8, F8⟩ := c.d.def_ 8 (d := df8) rfl
  obtain ⟨fd9, F9⟩ := c.d.def_ 9 (d := df9) rfl
  obtain ⟨fd10, F10⟩ := c.d.def_ 10 (d := df10) rfl
  obtain ⟨fd11, F11⟩ := c.d.def_ 11 (d := df11) rfl
  obtain ⟨fd12, F12⟩ := c.d.def_ 12 (d := df12) rfl
  obtain ⟨fd13, F13⟩ := c.d.def_ 13 (d := df13) rfl
  obtain ⟨fd14, F14⟩ := c.d.def_ 14 (d := df14) rfl
  obtain ⟨fd15, F15⟩ := c.d.def_ 15 (d := df15) rfl
  obtain ⟨fd16, F16⟩ := c.d.def_ 16 (d := df16) rfl
  obtain ⟨fd17, F17⟩ := c.d.def_ 17 (d := df17) rfl
  obtain ⟨fd18, F18⟩ := c.d.def_ 18 (d := df18) rfl
  obtain ⟨fd19, F19⟩ := c.d.def_ 19 (d := df19) rfl
  obtain ⟨fdI, FI⟩ := c.d.def_ 20 (d := dfI) rfl
  have hx := c.x
  unfold fx at hx
  obtain ⟨x0, hx⟩ := Bool.and_eq_true_iff.mp hx
  obtain ⟨x1, hx⟩ := Bool.and_eq_true_iff.mp hx
  obtain ⟨x2, hx⟩ := Bool.and_eq_true_iff.mp hx
  obtain ⟨C, ex, tI⟩ := excB_ok x0
  exact ⟨{ C := C,
            fI := _,
            fdI := fdI,
            ex := ex,
            tI := tI,
            FI := FI,
            fd0 := fd0,
            F0 := F0,
            g_is_integer := He.glo_ok X G (c.d.fact 0 (f := .glo (PySem.Str.ofString "is_integer")) rfl),
            fd1 := fd1,
            F1 := F1,
            g_is_number := He.glo_ok X G (c.d.fact 1 (f := .glo (PySem.Str.ofString "is_number")) rfl),
            fd2 := fd2,
            F2 := F2,
            g_is_polynomial := He.glo_ok X G (c.d.fact 2 (f := .glo (PySem.Str.ofString "is_polynomial")) rfl),
            fd3 := fd3,
            F3 := F3,
            g_is_broken := He.glo_ok X G (c.d.fact 3 (f := .glo (PySem.Str.ofString "is_broken")) rfl),
            fd4 := fd4,
            F4 := F4,
            g_check_polynomial := He.glo_ok X G (c.d.fact 4 (f := .glo (PySem.Str.ofString "check_polynomial")) rfl),
            fd5 := fd5,
            F5 := F5,
            g_degree := He.glo_ok X G (c.d.fact 5 (f := .glo (PySem.Str.ofString "degree")) rfl),
            fd6 := fd6,
            F6 := F6,
            g__law_take := He.glo_ok X G (c.d.fact 6 (f := .glo (PySem.Str.ofString "_law_take")) rfl),
            fd7 := fd7,
            F7 := F7,
            g__law_same := He.glo_ok X G (c.d.fact 7 (f := .glo (PySem.Str.ofString "_law_same")) rfl),
            fd8 := fd8,
            F8 := F8,
            g__law_low := He.glo_ok X G (c.d.fact 8 (f := .glo (PySem.Str.ofString "_law_low")) rfl),
            fd9 := fd9,
            F9 := F9,
            g__law_plus := He.glo_ok X G (c.d.fact 9 (f := .glo (PySem.Str.ofString "_law_plus")) rfl),
            fd10 := fd10,
            F10 := F10,
            g__law_times := He.glo_ok X G (c.d.fact 10 (f := .glo (PySem.Str.ofString "_law_times")) rfl),
            fd11 := fd11,
            F11 := F11,
            g__law_dot := He.glo_ok X G (c.d.fact 11 (f := .glo (PySem.Str.ofString "_law_dot")) rfl),
            fd12 := fd12,
            F12 := F12,
            g__law_is_integer := He.glo_ok X G (c.d.fact 12 (f := .glo (PySem.Str.ofString "_law_is_integer")) rfl),
            fd13 := fd13,
            F13 := F13,
            g__law_is_number := He.glo_ok X G (c.d.fact 13 (f := .glo (PySem.Str.ofString "_law_is_number")) rfl),
            fd14 := fd14,
            F14 := F14,
            g__law_is_polynomial := He.glo_ok X G (c.d.fact 14 (f := .glo (PySem.Str.ofString "_law_is_polynomial")) rfl),
            fd15 := fd15,
            F15 := F15,
            g__law_is_broken := He.glo_ok X G (c.d.fact 15 (f := .glo (PySem.Str.ofString "_law_is_broken")) rfl),
            fd16 := fd16,
            F16 := F16,
            g__law_integer := He.glo_ok X G (c.d.fact 16 (f := .glo (PySem.Str.ofString "_law_integer")) rfl),
            fd17 := fd17,
            F17 := F17,
            g__law_row := He.glo_ok X G (c.d.fact 17 (f := .glo (PySem.Str.ofString "_law_row")) rfl),
            fd18 := fd18,
            F18 := F18,
            g__law_bent := He.glo_ok X G (c.d.fact 18 (f := .glo (PySem.Str.ofString "_law_bent")) rfl),
            fd19 := fd19,
            F19 := F19,
            g_law := He.glo_ok X G (c.d.fact 19 (f := .glo (PySem.Str.ofString "law")) rfl),
            i_gcd := bltB_ok X G x1,
            g_WorthError := He.glo_ok X G (c.d.fact 20 (f := .glo (PySem.Str.ofString "WorthError")) rfl),
            g_InvalidPolynomial := He.glo_ok X G (c.d.fact 21 (f := .glo (PySem.Str.ofString "InvalidPolynomial")) rfl),
            b_ValueError := He.free_ok X G (c.d.fact 22 (f := .free (PySem.Str.ofString "ValueError")) rfl),
            b_abs := He.free_ok X G (c.d.fact 23 (f := .free (PySem.Str.ofString "abs")) rfl),
            b_all := He.free_ok X G (c.d.fact 24 (f := .free (PySem.Str.ofString "all")) rfl),
            b_bool := He.free_ok X G (c.d.fact 25 (f := .free (PySem.Str.ofString "bool")) rfl),
            b_int := He.free_ok X G (c.d.fact 26 (f := .free (PySem.Str.ofString "int")) rfl),
            b_isinstance := He.free_ok X G (c.d.fact 27 (f := .free (PySem.Str.ofString "isinstance")) rfl),
            b_len := He.free_ok X G (c.d.fact 28 (f := .free (PySem.Str.ofString "len")) rfl),
            b_list := He.free_ok X G (c.d.fact 29 (f := .free (PySem.Str.ofString "list")) rfl),
            b_range := He.free_ok X G (c.d.fact 30 (f := .free (PySem.Str.ofString "range")) rfl),
            b_str := He.free_ok X G (c.d.fact 31 (f := .free (PySem.Str.ofString "str")) rfl),
            b_tuple := He.free_ok X G (c.d.fact 32 (f := .free (PySem.Str.ofString "tuple")) rfl),
            b_zip := He.free_ok X G (c.d.fact 33 (f := .free (PySem.Str.ofString "zip")) rfl),
            vV := by rfl,
            k_ZERO := glo_tup X G x2 (fun w => (.cons (.int _) (.cons (.int _) .nil))) }⟩
/-! ### the law holds, if what is computed is True -/
theorem holds_of (m : Nat) (hr : Room (m + 2) callerA) (hlaw : ∀ ns : List Int, ns.length ≤ 63 → ∃ S, calls m 19 [.fls ns] [] = .ok (.bl true) S) : PySem.Challenge.rw_wholerates_k03_whole_polynomials_judged.Holds := by
  w_on; o_law
  refine HandSHeadRun.head_imp (r := R) (q := PySem.W.view R.prog [0, 27]) (H := hk) (ob := ob) (M := 60000) (loose := loose) (d := HandSHeadRun.topDef R.prog 27) (kwd := []) ob_eq
    run (by kernel_rfl) (by kernel_rfl) (by kernel_rfl) (by rfl) (by first | assumption | decide +kernel) (by decide +kernel) ⟨rfl, rfl, rfl, rfl, rfl, by decide +kernel⟩ ?hw ?hc
  case hw => w_witness2
  case hc =>
    refine L2.walk_ofE (l := PySem.Challenge.rw_wholerates_k03_whole_polynomials_judged) (n := 63) (k := m + 2) (x := PySem.Str.ofString "script") (CX := CX0) rfl (by decide) (by kernel_rfl) hr ?F (fun _ _ _ _ z => z)
    intro w mg fa h Y G hmg0
    obtain ⟨K, KX, c⟩ := Y
    have hmg : mg (PySem.Str.ofString "law") = some (.ref fa) := by
      have e : (HandSHeadRun.topDef R.prog 27).name = PySem.Str.ofString "law" := by kernel_rfl
      rw [← e]
      exact hmg0
    obtain ⟨x⟩ := ctx KX G c
    have e := hmg.symm.trans x.g_law
    cases e
    have b := FunD.bindsA (ps := P19) x.F19 fun _ _ _ _ _ _ us hl => match us, hl with | [_], _ => rfl
    exact ⟨K, x.fd19, _, KX, fun s v => b s [v] rfl, fun H a ns hl hO hS => (by obtain ⟨S, q⟩ := hlaw ns hl; exact law_sp (ca := ca K) hO hS q), fun base _ _ => fn_cx0 (all x m).f19⟩
end K03

set_option maxHeartbeats 4000000
namespace K03
open Py
open PySem (Str sizeLine)
variable {n : Nat} {S : Store}
theorem sl : sizeLine = 16777216 := by decide
def V1 (d : D) : Prop := Vl d = true ∧ (∀ xs, d = .tup xs → xs.length ≤ 100 ∧ ∀ x ∈ xs, Vl x = true) ∧ (∀ a b, two d = some (a, b) → a.natAbs < 2 ^ 1000 ∧ b.natAbs < 2 ^ 1000)
def V2 (d : D) : Prop := Vl d = true ∧ ∀ xs, d = .tup xs → xs.length ≤ 100 ∧ ∀ x ∈ xs, V1 x
theorem is_int {d : D} (h : Vl d = true) : calls (n + 1) 0 [d] S = .ok (.bl (isI d)) S := by
  show tidy S (runBody (isIntD anc) 1 [d] S) = _
  rw [isInt_body h]; exact tidy_ok0
theorem is_int' {d : D} (h : Vl d = true) : calls (n + 1) 12 [d] S = .ok (.bl (isI d)) S := by
  show tidy S (runBody (isIntD anc) 1 [d] S) = _
  rw [isInt_body h]; exact tidy_ok0
theorem is_num {d : D} (h : V1 d) : calls (n + 2) 1 [d] S = .ok (.bl (numB d)) S := by
  show tidy S (runBody (numHead anc (calls (n + 1)) 0 numT) 2 [d] S) = _
  rw [num_body h.1 fun xs e => ⟨by have := (h.2.1 xs e).1; rw [sl]; omega, fun x hx S' => is_int ((h.2.1 xs e).2 x hx)⟩]; exact tidy_ok0
theorem low_ok {a b : Int} (hb : b ≠ 0) (h1 : a.natAbs < 2 ^ 1000) (h2 : b.natAbs < 2 ^ 1000) : calls (n + 1) 8 [.int a, .int b] S = .ok (.tup [.int (a.fdiv (cofP a b)), .int (b.fdiv (cofP a b))]) S := by
  show tidy S (runBody lowD 6 [.int a, .int b] S) = _
  rw [low_body hb h1 h2]; exact tidy_ok0
theorem is_num' {d : D} (h : V1 d) : calls (n + 2) 13 [d] S = .ok (.bl (numB d)) S := by
  show tidy S (runBody (numHead anc (calls (n + 1)) 12 (numT' (calls (n + 1)) 8)) 2 [d] S) = _
  rw [num_body' h.1 (fun xs e => ⟨by have := (h.2.1 xs e).1; rw [sl]; omega, fun x hx S' => is_int' ((h.2.1 xs e).2 x hx)⟩) fun a b e hb S' => by
    have := h.2.2 a b e
    rw [low_ok (by omega) this.1 this.2, show cofP a b = ((Nat.gcd a.natAbs b.natAbs : Nat) : Int) from if_neg (by omega)]]
  exact tidy_ok0
theorem is_poly {d : D} (h : V2 d) : calls (n + 2) 2 [d] S = .ok (.bl (polyB d)) S := by
  show tidy S (runBody (polyD anc (calls (n + 1)) 0) 2 [d] S) = _
  rw [poly_body h.1 fun xs e => ⟨by have := (h.2 xs e).1; rw [sl]; omega, fun x hx S' => is_int ((h.2 xs e).2 x hx).1⟩]; exact tidy_ok0
theorem is_poly' {d : D} (h : V2 d) : calls (n + 2) 14 [d] S = .ok (.bl (polyB d)) S := by
  show tidy S (runBody (polyD' anc (calls (n + 1)) 12) 2 [d] S) = _
  rw [poly_body' h.1 fun xs e => ⟨by have := (h.2 xs e).1; rw [sl]; omega, fun x hx S' => is_int' ((h.2 xs e).2 x hx).1⟩]; exact tidy_ok0
theorem is_brk {d : D} (h : V2 d) : calls (n + 3) 3 [d] S = .ok (.bl (brokenB d)) S := by
  show tidy S (runBody (brkD anc (calls (n + 2)) 1 brkT) 2 [d] S) = _
  rw [brk_body h.1 fun xs e => ⟨by have := (h.2 xs e).1; rw [sl]; omega, fun x hx S' => is_num ((h.2 xs e).2 x hx)⟩]; exact tidy_ok0
theorem is_brk' {d : D} (h : V2 d) : calls (n + 3) 15 [d] S = .ok (.bl (brokenB d)) S := by
  show tidy S (runBody (brkD anc (calls (n + 2)) 13 brkT') 2 [d] S) = _
  rw [brk_body' h.1 fun xs e => ⟨by have := (h.2 xs e).1; rw [sl]; omega, fun x hx S' => is_num' ((h.2 xs e).2 x hx)⟩]; exact tidy_ok0
theorem check_ok {d : D} (h : V2 d) (hp : polyB d = true) : calls (n + 3) 4 [d] S = .ok .non S := by
  show tidy S (runBody (d4 (calls (n + 2))) 1 [d] S) = _
  have : runBody (d4 (calls (n + 2))) 1 [d] S = .ok .non S := by
    unfold runBody d4
    simp [is_poly h, hp]
  rw [this]; exact tidy_ok0
theorem deg_ok {xs : List D} (h : V2 (.tup xs)) (hp : polyB (.tup xs) = true) : calls (n + 4) 5 [.tup xs] S = .ok (.int ((xs.length : Int) - 1)) S := by
  show tidy S (runBody (d5 (calls (n + 3))) 1 [.tup xs] S) = _
  have e1 : oLen [.tup xs] S = .ok (.int xs.length) S := rfl
  have : runBody (d5 (calls (n + 3))) 1 [.tup xs] S = .ok (.int ((xs.length : Int) - 1)) S := by
    unfold runBody d5
    simp [check_ok h hp, e1]
  rw [this]; exact tidy_ok0
theorem take_ok {p : Nat} {m : Int} (hP : Pot S p) (h0 : 0 < m) (h1 : m.natAbs < 2 ^ 1000) : ∃ v S', calls (n + 1) 6 [.ref p, .int m] S = .ok (.int v) S' ∧ 0 ≤ v ∧ v < m ∧ Pot S' p ∧ Fr1 S S' p := by
  obtain ⟨v, S', e, r⟩ := take_body hP h0 h1
  refine ⟨v, S', ?_, r⟩
  show tidy S (runBody takeD 5 [.ref p, .int m] S) = _
  rw [e]; exact tidy_same r.2.2.2.1
theorem same_b {b : Bool} : calls (n + 1) 7 [.bl b, .bl b] S = .ok (.bl true) S := by
  show tidy S (runBody (sameD anc (calls n) 7) 3 [.bl b, .bl b] S) = _
  rw [same_bl]; exact tidy_ok0
theorem same_i {b : Int} : calls (n + 1) 7 [.int b, .int b] S = .ok (.bl true) S := by
  show tidy S (runBody (sameD anc (calls n) 7) 3 [.int b, .int b] S) = _
  rw [same_int]; exact tidy_ok0
theorem same_bs {bs : List Bool} (hl : bs.length ≤ 100) : calls (n + 2) 7 [.lst (bs.map .bl), .lst (bs.map .bl)] S = .ok (.bl true) S := by
  show tidy S (runBody (sameD anc (calls (n + 1)) 7) 3 [.lst (bs.map .bl), .lst (bs.map .bl)] S) = _
  rw [same_sq (.inl rfl) (fun x hx S' => by
    obtain ⟨b, _, rfl⟩ := List.mem_map.mp hx
    exact same_b) (by rw [List.length_map, sl]; omega)]
  exact tidy_ok0
theorem same_is {bs : List Int} (hl : bs.length ≤ 100) : calls (n + 2) 7 [.lst (bs.map .int), .lst (bs.map .int)] S = .ok (.bl true) S := by
  show tidy S (runBody (sameD anc (calls (n + 1)) 7) 3 [.lst (bs.map .int), .lst (bs.map .int)] S) = _
  rw [same_sq (.inl rfl) (fun x hx S' => by
    obtain ⟨b, _, rfl⟩ := List.mem_map.mp hx
    exact same_i) (by rw [List.length_map, sl]; omega)]
  exact tidy_ok0
/-! what is drawn -/
theorem integer_ok {p : Nat} (hP : Pot S p) : ∃ v S', calls (n + 2) 16 [.ref p] S = .ok (.int v) S' ∧ v.natAbs ≤ 1000000000000000000000000000000 ∧ Pot S' p ∧ Fr1 S S' p := by
  obtain ⟨v, S1, e1, v0, v1, P1, F1⟩ := take_ok (n := n) hP (show (0 : Int) < 3 by decide) (by decide)
  have hf : ∃ far : Int, L2.atI [D.int 2, .int 20, .int 1000000000000000000000000000000] v = some (.int far) ∧ 0 ≤ far ∧ far ≤ 1000000000000000000000000000000 := by
    have : v = 0 ∨ v = 1 ∨ v = 2 := by omega
    rcases this with rfl | rfl | rfl
    · exact ⟨2, rfl, by decide, by decide⟩
    · exact ⟨20, rfl, by decide, by decide⟩
    · exact ⟨1000000000000000000000000000000, rfl, by decide, by decide⟩
  obtain ⟨far, hf, f0, f1⟩ := hf
  obtain ⟨w, S2, e2, w0, w1, P2, F2⟩ := take_ok (n := n) (m := 2 * far + 1) P1 (by omega) (sm (B := 2000000000000000000000000000001) (by omega) (by decide))
  refine ⟨w - far, S2, ?_, by omega, P2, F1.trans F2⟩
  show tidy S (runBody (d16 (calls (n + 1))) 2 [.ref p] S) = _
  have m1 : mulOk 2 far = true := mulOk_small (by decide) (sm (B := 1000000000000000000000000000000) (by omega) (by decide))
  have pw : ∀ S : Store, oPow (.int 10) (.int 30) S = .ok (.int 1000000000000000000000000000000) S := fun S => by rw [oPow_i (by decide)]; rfl
  have : runBody (d16 (calls (n + 1))) 2 [.ref p] S = .ok (.int (w - far)) S2 := by
    unfold runBody d16
    simp [pw, e1, idx_lst hf, oRep_i m1, e2]
  rw [this]
  exact tidy_same (F1.trans F2).1
end K03

set_option maxHeartbeats 4000000
namespace K03
open Py
open PySem (Str sizeLine)
variable {n : Nat} {S : Store}
theorem low_facts {a b : Int} (hb : 0 < b) : (a.fdiv (Nat.gcd a.natAbs b.natAbs : Nat)).natAbs ≤ a.natAbs ∧ (b.fdiv (Nat.gcd a.natAbs b.natAbs : Nat)).natAbs ≤ b.natAbs ∧ 0 < b.fdiv (Nat.gcd a.natAbs b.natAbs : Nat) ∧
    Nat.gcd (a.fdiv (Nat.gcd a.natAbs b.natAbs : Nat)).natAbs (b.fdiv (Nat.gcd a.natAbs b.natAbs : Nat)).natAbs = 1 ∧ (a ≠ 0 → a.fdiv (Nat.gcd a.natAbs b.natAbs : Nat) ≠ 0) := by
  have hp : 0 < Nat.gcd a.natAbs b.natAbs := Nat.gcd_pos_of_pos_right _ (Int.natAbs_pos.mpr (by omega))
  have d1 : Nat.gcd a.natAbs b.natAbs ∣ a.natAbs := Nat.gcd_dvd_left _ _
  have d2 : Nat.gcd a.natAbs b.natAbs ∣ b.natAbs := Nat.gcd_dvd_right _ _
  have hg := Nat.gcd_div d1 d2
  have l1 : a ≠ 0 → Nat.gcd a.natAbs b.natAbs ≤ a.natAbs := fun h => Nat.gcd_le_left _ (Int.natAbs_pos.mpr h)
  have l2 : Nat.gcd a.natAbs b.natAbs ≤ b.natAbs := Nat.gcd_le_right _ (Int.natAbs_pos.mpr (by omega))
  rw [Nat.div_self hp] at hg
  generalize Nat.gcd a.natAbs b.natAbs = g at *
  have e1 : (a.fdiv (g : Int)).natAbs = a.natAbs / g := by
    rw [Int.fdiv_eq_ediv_of_nonneg _ (by omega), Int.natAbs_ediv_of_dvd (Int.ofNat_dvd_left.mpr d1), Int.natAbs_natCast]
  have e2 : (b.fdiv (g : Int)).natAbs = b.natAbs / g := by
    rw [Int.fdiv_eq_ediv_of_nonneg _ (by omega), Int.natAbs_ediv_of_dvd (Int.ofNat_dvd_left.mpr d2), Int.natAbs_natCast]
  have p2 : 0 < b.natAbs / g := Nat.div_pos l2 hp
  have q2 : 0 ≤ b.fdiv (g : Int) := Int.fdiv_nonneg (by omega) (by omega)
  refine ⟨by rw [e1]; exact Nat.div_le_self _ _, by rw [e2]; exact Nat.div_le_self _ _, by omega, by rw [e1, e2]; exact hg, fun h hz => ?_⟩
  have p1 : 0 < a.natAbs / g := Nat.div_pos (l1 h) hp
  rw [hz] at e1
  simp at e1
  omega
def good (wh : Bool) (j : Nat) (x : D) : Prop := match wh with
  | true => ∃ a : Int, x = .int a ∧ a.natAbs ≤ 1000000000000000000000000000001 ∧ (j = 0 → a ≠ 0)
  | false => ∃ a b : Int, x = .tup [.int a, .int b] ∧ 0 < b ∧ Nat.gcd a.natAbs b.natAbs = 1 ∧ a.natAbs ≤ 1000000000000000000000000000001 ∧ b.natAbs ≤ 1000000000000000000000000000001 ∧ (j = 0 → a ≠ 0)
theorem good_no {wh : Bool} {j : Nat} {x : D} (h : good wh j x) : noRef x = true := by
  cases wh
  · obtain ⟨a, b, rfl, _⟩ := h; rfl
  · obtain ⟨a, rfl, _⟩ := h; rfl
theorem noRefL_all {xs : List D} (h : ∀ x ∈ xs, noRef x = true) : noRefL xs = true := by
  have := noRefL_map (φ := id) h
  simpa using this
theorem append_ref {S : Store} {q : Nat} {xs : List D} {v : D} (h : S[q]? = some (.lst xs)) (hl : xs.length < sizeLine) : chg (kApp v) (.ref q) S = .ok .non (S.set q (.lst (xs ++ [v]))) := by
  refine chg_at h ?_
  unfold kApp
  rw [if_pos hl]
def rowB (Γ : Calls) : DenS := (sSeq (sSet 4 (eCall Γ 16 (dCons (eVar 0) dNil)))
    (sSeq (sSet 4 (eIf (tOr (tVal (eBin oGt (eVar 3) (eC (.int 0)))) (tVal (eBin oNe (eVar 4) (eC (.int 0))))) (eVar 4) (eC (.int 1))))
    (sExpr (eApp (rcv (eVar 2)) (eIf (tVal (eVar 1)) (eVar 4) (eCall Γ 8 (dCons (eVar 4) (dCons (eBin oCat (eC (.int 1)) (eFn oAbs (dCons (eCall Γ 16 (dCons (eVar 0) dNil)) dNil))) dNil))))))))
theorem row_ok {p : Nat} (wh : Bool) (hP : Pot S p) : ∃ xs S', calls (n + 3) 17 [.ref p, .bl wh] S = .ok (.tup xs) S' ∧ xs.length ≤ 13 ∧ (∀ j x, xs[j]? = some x → good wh j x) ∧ Pot S' p ∧ Fr2 S S' p := by
  have hp := hP.lt
  have hP0 : Pot (S ++ [.lst []]) p := hP.app
  obtain ⟨t, S1, e1, t0, t1, P1, F1⟩ := take_ok (n := n + 1) hP0 (show (0 : Int) < 14 by decide) (by decide)
  let Inv : Nat → Env → Store → Prop := fun i e U => ∃ (o3 o4 : Option D) (xs : List D), e = [some (.ref p), some (.bl wh), some (.ref S.length), o3, o4] ∧ U[S.length]? = some (.lst xs) ∧ xs.length = i ∧ (∀ j x, xs[j]? = some x → good wh j x) ∧ Pot U p ∧ Fr2 S U p
  have h0 : (S ++ [O.lst []])[S.length]? = some (.lst []) := by rw [List.getElem?_append_right (Nat.le_refl _), Nat.sub_self]; rfl
  have step := forL_inv (g := gNm 3) (b := rowB (calls (n + 2))) (xs := intsD 0 t.toNat) Inv (fun i x e U hx hI => by
    obtain ⟨o3, o4, xs, rfl, g, hl, hg, PU, FU⟩ := hI
    obtain ⟨hi, rfl⟩ := intsD_at hx
    rw [Int.zero_add] at hx ⊢
    obtain ⟨top, U1, e2, b2, P2, F2⟩ := integer_ok (n := n) PU
    refine ⟨_, rfl, ?_⟩
    have hgt : decide ((0 : Int) < (i : Int)) = !(decide (i = 0)) := by
      by_cases h : i = 0
      · subst h; rfl
      · simp [h]; omega
    -- the top that is taken
    obtain ⟨tp, htp, btp, ntp⟩ : ∃ tp : Int, (if (decide ((0 : Int) < (i : Int)) || !(top == 0)) = true then (R.ok (D.int top) U1) else .ok (.int 1) U1) = .ok (.int tp) U1 ∧ tp.natAbs ≤ 1000000000000000000000000000000 ∧ (i = 0 → tp ≠ 0) := by
      by_cases h : (decide ((0 : Int) < (i : Int)) || !(top == 0)) = true
      · refine ⟨top, by rw [if_pos h], b2, fun hz => ?_⟩
        subst hz
        simpa using h
      · exact ⟨1, by rw [if_neg h], by decide, fun _ => by decide⟩
    have g1 : U1[S.length]? = some (.lst xs) := (F2.2 _ (by omega)).trans g
    have hcut : ∀ S' : Store, (sSeq (sSet 4 (eCall (calls (n + 2)) 16 (dCons (eVar 0) dNil)))
      (sSet 4 (eIf (tOr (tVal (eBin oGt (eVar 3) (eC (.int 0)))) (tVal (eBin oNe (eVar 4) (eC (.int 0))))) (eVar 4) (eC (.int 1))))) [some (.ref p), some (.bl wh), some (.ref S.length), some (.int i), o4] U = .next [some (.ref p), some (.bl wh), some (.ref S.length), some (.int i), some (.int tp)] U1 := fun _ => by
      by_cases h : (0 : Int) < (i : Int)
      · rw [decide_eq_true h] at htp
        simp only [Bool.true_or, if_true] at htp
        cases htp
        simp only [sSeq_ap, sSet_ap, eCall_ap, dCons_ap, eVar_c0, eVar_c, dNil_ap, R.bind, e2, List.set, eIf_ap, tOr_ap, tVal_ap, eBin_ap, eC_ap, oGt_i, h, decide_true, if_true]
      · rw [decide_eq_false h] at htp
        simp only [Bool.false_or] at htp
        by_cases h2 : (!(top == 0)) = true
        · rw [if_pos h2] at htp
          cases htp
          simp only [sSeq_ap, sSet_ap, eCall_ap, dCons_ap, eVar_c0, eVar_c, dNil_ap, R.bind, e2, List.set, eIf_ap, tOr_ap, tVal_ap, eBin_ap, eC_ap, oGt_i, h, decide_false, Bool.false_eq_true, if_false, oNe_i, h2, if_true]
        · rw [if_neg h2] at htp
          cases htp
          simp only [sSeq_ap, sSet_ap, eCall_ap, dCons_ap, eVar_c0, eVar_c, dNil_ap, R.bind, e2, List.set, eIf_ap, tOr_ap, tVal_ap, eBin_ap, eC_ap, oGt_i, h, decide_false, Bool.false_eq_true, if_false, oNe_i, h2]
    have hl2 : xs.length < sizeLine := by rw [sl]; omega
    have mem : ∀ (y : D), good wh i y → ∀ j x, (xs ++ [y])[j]? = some x → good wh j x := fun y hy j x hjx => by
      by_cases hj : j < xs.length
      · rw [List.getElem?_append_left hj] at hjx; exact hg j x hjx
      · rw [List.getElem?_append_right (by omega)] at hjx
        have : j - xs.length = 0 := by
          apply Classical.byContradiction
          intro hne
          rw [List.getElem?_eq_none (by simp; omega)] at hjx
          cases hjx
        rw [this] at hjx
        cases hjx
        have : j = i := by omega
        rw [this]; exact hy
    have body : ∀ (F : Den) (y : D) (U2 : Store), F [some (.ref p), some (.bl wh), some (.ref S.length), some (.int i), some (.int tp)] U1 = .ok y U2 → U2[S.length]? = some (.lst xs) → good wh i y → Pot U2 p → Fr2 S U2 p →
        ∃ e2 S2, ((sSeq (sSet 4 (eCall (calls (n + 2)) 16 (dCons (eVar 0) dNil)))
      (sSeq (sSet 4 (eIf (tOr (tVal (eBin oGt (eVar 3) (eC (.int 0)))) (tVal (eBin oNe (eVar 4) (eC (.int 0))))) (eVar 4) (eC (.int 1))))
      (sExpr (eApp (rcv (eVar 2)) F)))) [some (.ref p), some (.bl wh), some (.ref S.length), some (.int i), o4] U = .next e2 S2) ∧ Inv (i + 1) e2 S2 := fun F y U2 hF hU2 hy PU2 FU2 => by
      refine ⟨[some (.ref p), some (.bl wh), some (.ref S.length), some (.int i), some (.int tp)], U2.set S.length (.lst (xs ++ [y])), ?_, some (.int i), some (.int tp), xs ++ [y], rfl, List.getElem?_set_self (lt_of_get hU2), by rw [List.length_append, hl]; rfl, mem y hy, PU2.same (List.getElem?_set_ne (by omega)), Fr2.set (Nat.le_refl _) FU2⟩
      have hc := hcut []
      rw [sSeq_ap] at hc ⊢
      cases q : sSet 4 (eCall (calls (n + 2)) 16 (dCons (eVar 0) dNil)) [some (.ref p), some (.bl wh), some (.ref S.length), some (.int i), o4] U with
      | next e3 U3 =>
        rw [q] at hc
        dsimp only at hc ⊢
        rw [sSeq_ap, hc]
        simp only [sExpr_ap, eApp_ap, rcv_ap, eVar_c, eVar_c0, R.bind, g1, hF, append_ref hU2 hl2]
      | _ => rw [q] at hc; cases hc
    cases wh with
    | true =>
      obtain ⟨e3, S3, h3, h4⟩ := body (eIf (tVal (eVar 1)) (eVar 4) (eCall (calls (n + 2)) 8 (dCons (eVar 4) (dCons (eBin oCat (eC (.int 1)) (eFn oAbs (dCons (eCall (calls (n + 2)) 16 (dCons (eVar 0) dNil)) dNil))) dNil)))) (.int tp) U1 (by
        simp only [eIf_ap, tVal_ap, eVar_c, eVar_c0, R.bind, if_true]) g1 ⟨tp, rfl, by omega, ntp⟩ P2 (FU.trans F2.to2)
      exact ⟨e3, S3, .inl h3, h4⟩
    | false =>
      obtain ⟨w, U2, e4, b4, P4, F4⟩ := integer_ok (n := n) P2
      have lo := low_ok (n := n + 1) (S := U2) (a := tp) (b := 1 + (w.natAbs : Int)) (by omega) (sm (B := 1000000000000000000000000000000) (by omega) (by decide)) (sm (B := 1000000000000000000000000000001) (by omega) (by decide))
      rw [show cofP tp (1 + (w.natAbs : Int)) = ((Nat.gcd tp.natAbs (1 + (w.natAbs : Int)).natAbs : Nat) : Int) from if_neg (by omega)] at lo
      have lf := low_facts (a := tp) (b := 1 + (w.natAbs : Int)) (by omega)
      obtain ⟨e3, S3, h3, h4⟩ := body (eIf (tVal (eVar 1)) (eVar 4) (eCall (calls (n + 2)) 8 (dCons (eVar 4) (dCons (eBin oCat (eC (.int 1)) (eFn oAbs (dCons (eCall (calls (n + 2)) 16 (dCons (eVar 0) dNil)) dNil))) dNil)))) _ U2 (by
        simp only [eIf_ap, tVal_ap, eVar_c, eVar_c0, R.bind, Bool.false_eq_true, if_false, eCall_ap, dCons_ap, dNil_ap, eBin_ap, eC_ap, eFn_ap, e4, oAbs_i, oCat_i]
        exact lo) ((F4.2 _ (by omega)).trans g1) ⟨_, _, rfl, lf.2.2.1, lf.2.2.2.1, by have := lf.1; omega, by have := lf.2.1; omega, fun hz => lf.2.2.2.2 (ntp hz)⟩ P4 (FU.trans (F2.trans F4).to2)
      exact ⟨e3, S3, .inl h3, h4⟩)
  obtain ⟨e', S', hf, o3, o4, xs, rfl, g, hl, hg, PU, FU⟩ := step [some (.ref p), some (.bl wh), some (.ref S.length), none, none] S1 ⟨none, none, [], rfl, (F1.2 _ (by omega)).trans h0, rfl, fun j x h => (by simp at h), P1, Fr2.app.trans F1.to2⟩
  rw [intsD_len] at hl
  have hb : runBody (d17 (calls (n + 2))) 5 [.ref p, .bl wh] S = .ok (.tup xs) S' := by
    have hd : d17 (calls (n + 2)) = (sSeq (sSet 2 (eNew dNil)) (sSeq (sFor (gNm 3) (dRng1 (eCall (calls (n + 2)) 6 (dCons (eVar 0) (dCons (eC (.int 14)) dNil)))) (rowB (calls (n + 2)))) (sRet (eFn oTuple (dCons (eVar 2) dNil))))) := rfl
    unfold runBody
    rw [hd]
    simp only [List.map_cons, List.map_nil, List.length_cons, List.length_nil, List.replicate, List.cons_append, List.nil_append, sSeq_ap, sSet_ap, eNew_ap, dNil_ap, R.bind, List.set]
    rw [sFor_L (xs := intsD 0 t.toNat) (dRng1_ok (by simp only [eCall_ap, dCons_ap, eVar_c0, eC_ap, dNil_ap, R.bind]; exact e1) t0 (by omega)), hf]
    have e5 : oTuple [.ref S.length] S' = .ok (.tup xs) S' := by
      show (match asL (.ref S.length) S' with | some xs => R.ok (D.tup xs) S' | none => .bad) = _
      have : asL (.ref S.length) S' = some xs := by show (match S'[S.length]? with | some (.lst xs) => some xs | _ => none) = _; rw [g]
      rw [this]
    simp only [sRet_ap, eFn_ap, dCons_ap, eVar_c, eVar_c0, dNil_ap, R.bind, e5]
  obtain ⟨S2, e6, P6, F6⟩ := tidy_pot (S := S) (S' := S') (p := p) (d := .tup xs) (by
    show noRefL xs = true
    refine noRefL_all fun x hx => ?_
    obtain ⟨j, hj, rfl⟩ := List.mem_iff_getElem.mp hx
    exact good_no (hg j _ (List.getElem?_eq_getElem hj))) hp PU FU
  refine ⟨xs, S2, ?_, by omega, hg, P6, F6⟩
  show tidy S (runBody (d17 (calls (n + 2))) 5 [.ref p, .bl wh] S) = _
  rw [hb]; exact e6
end K03

set_option maxHeartbeats 4000000
namespace K03
open Py
open PySem (Str sizeLine)
variable {n : Nat} {S : Store}
def v1B (d : D) : Bool := Vl d && ((match d with | .tup xs => decide (xs.length ≤ 100) && xs.all Vl | _ => true) && (match two d with | some (a, b) => decide (a.natAbs ≤ 1000) && decide (b.natAbs ≤ 1000) | none => true))
theorem V1_of {d : D} (h : v1B d = true) : V1 d := by
  unfold v1B at h
  rw [Bool.and_eq_true, Bool.and_eq_true] at h
  obtain ⟨h1, h2, h3⟩ := h
  refine ⟨h1, fun xs e => ?_, fun a b e => ?_⟩
  · subst e
    simp only [Bool.and_eq_true, decide_eq_true_eq, List.all_eq_true] at h2
    exact h2
  · rw [e] at h3
    simp only [Bool.and_eq_true, decide_eq_true_eq] at h3
    exact ⟨sm h3.1 (by decide), sm h3.2 (by decide)⟩
theorem V1_int {a : Int} : V1 (.int a) := ⟨rfl, fun _ e => (by cases e), fun _ _ e => (by cases e)⟩
theorem V1_pair {a b : Int} (h1 : a.natAbs < 2 ^ 1000) (h2 : b.natAbs < 2 ^ 1000) : V1 (.tup [.int a, .int b]) :=
  ⟨rfl, fun xs e => by
    cases e
    exact ⟨by simp, fun x hx => by
      simp only [List.mem_cons, List.not_mem_nil, or_false] at hx
      rcases hx with rfl | rfl <;> rfl⟩, fun x y e => by cases e; exact ⟨h1, h2⟩⟩
/-- what a row holds -/
structure Row (xs : List D) : Prop where
  len : xs.length ≤ 13
  el : ∀ x ∈ xs, V1 x
  no : ∀ x ∈ xs, noRef x = true
  fit : Py.fit (.tup xs) = true
  sml : ∀ a b, two (.tup xs) = some (a, b) → a.natAbs < 2 ^ 1000 ∧ b.natAbs < 2 ^ 1000
theorem two30 : (1000000000000000000000000000001 : Nat) < 2 ^ 1000 := by decide
theorem row_row {xs : List D} (wh : Bool) (hl : xs.length ≤ 13) (hg : ∀ j x, xs[j]? = some x → good wh j x) : Row xs := by
  have hm : ∀ x ∈ xs, ∃ j, good wh j x := fun x hx => by
    obtain ⟨j, hj, rfl⟩ := List.mem_iff_getElem.mp hx
    exact ⟨j, hg j _ (List.getElem?_eq_getElem hj)⟩
  refine ⟨hl, fun x hx => ?_, fun x hx => good_no (hm x hx).choose_spec, ?_, fun a b e => ?_⟩
  · obtain ⟨j, h⟩ := hm x hx
    cases wh
    · obtain ⟨a, b, rfl, _, _, h1, h2, _⟩ := h
      exact V1_pair (sm h1 two30) (sm h2 two30)
    · obtain ⟨a, rfl, _⟩ := h
      exact V1_int
  · cases wh
    · have : ∃ l : List (Int × Int), xs = l.map pairD := by
        clear hl hg
        induction xs with
        | nil => exact ⟨[], rfl⟩
        | cons x xs ih =>
          obtain ⟨l, hl⟩ := ih fun y hy => hm y (List.mem_cons_of_mem _ hy)
          obtain ⟨j, a, b, rfl, _⟩ := hm x List.mem_cons_self
          exact ⟨(a, b) :: l, by rw [hl]; rfl⟩
      obtain ⟨l, rfl⟩ := this
      exact fit_pairs l
    · have : ∃ l : List Int, xs = l.map .int := by
        clear hl hg
        induction xs with
        | nil => exact ⟨[], rfl⟩
        | cons x xs ih =>
          obtain ⟨l, hl⟩ := ih fun y hy => hm y (List.mem_cons_of_mem _ hy)
          obtain ⟨j, a, rfl, _⟩ := hm x List.mem_cons_self
          exact ⟨a :: l, by rw [hl]; rfl⟩
      obtain ⟨l, rfl⟩ := this
      exact fit_tints l
  · cases two_of e
    cases wh
    · obtain ⟨j, a', b', h, _⟩ := hm (.int a) (by simp)
      cases h
    · obtain ⟨j, a', h, h1, _⟩ := hm (.int a) (by simp)
      obtain ⟨j2, b', h3, h4, _⟩ := hm (.int b) (by simp)
      cases h
      cases h3
      exact ⟨sm h1 two30, sm h4 two30⟩
theorem Row.v2 {xs : List D} (h : Row xs) : V2 (.tup xs) := ⟨rfl, fun ys e => by cases e; exact ⟨by have := h.len; omega, h.el⟩⟩
def OK2 (d : D) : Prop := V2 d ∧ noRef d = true
theorem OK2_tup {ys : List D} (hl : ys.length ≤ 100) (h : ∀ y ∈ ys, V1 y ∧ noRef y = true) : OK2 (.tup ys) :=
  ⟨⟨rfl, fun zs e => by cases e; exact ⟨hl, fun y hy => (h y hy).1⟩⟩, noRefL_all fun y hy => (h y hy).2⟩
theorem OK2_other {d : D} (h : Vl d = true) (ht : isTup d = false) (hn : noRef d = true) : OK2 d := ⟨⟨h, fun xs e => by subst e; cases ht⟩, hn⟩
def odd : List D := [.non, .bl true, .bl false, .str (PySem.Str.ofString "1"), .tup [.int 1], .lst [.int 1], .tup [.int 1, .int 2], .tup [.int 0, .int 1], .tup [.int 2, .int 4], .tup [.int 1, .int (-2)], .tup [.int 0, .int 0], .tup [.int 1, .int 0], .int 0, .int 3, .tup [.tup [.int 1, .int 2]], .tup [.bl true, .int 1]]
theorem odd_ok : odd.all (fun d => v1B d && noRef d) = true := by rfl
theorem odd_at {k : Int} (h0 : 0 ≤ k) (h1 : k < 16) : ∃ x, L2.atI odd k = some x ∧ V1 x ∧ noRef x = true := by
  have hk : k.toNat < odd.length := by show k.toNat < 16; omega
  have e := atI_nat hk
  rw [show ((k.toNat : Nat) : Int) = k by omega] at e
  have := List.all_eq_true.mp odd_ok _ (List.getElem_mem hk)
  rw [Bool.and_eq_true] at this
  exact ⟨_, e, V1_of this.1, this.2⟩
theorem cut_mem {xs : List D} {l u : Option Int} {x : D} (h : x ∈ cutD xs l u) : x ∈ xs := List.mem_of_mem_drop (List.mem_of_mem_take h)
theorem cut_len {xs : List D} {l u : Option Int} : (cutD xs l u).length ≤ xs.length := by
  unfold cutD
  rw [List.length_take, List.length_drop]
  omega
theorem cat_tup {xs ys : List D} (h : xs.length + ys.length ≤ 1000) : oCat (.tup xs) (.tup ys) S = .ok (.tup (xs ++ ys)) S := by
  show (if xs.length + ys.length ≤ sizeLine then R.ok (D.tup (xs ++ ys)) S else .bad) = _
  rw [if_pos (by rw [sl]; omega)]
theorem bent_ok {p : Nat} {xs : List D} (hP : Pot S p) (hR : Row xs) : ∃ d S', calls (n + 2) 18 [.ref p, .tup xs] S = .ok d S' ∧ OK2 d ∧ Pot S' p ∧ Fr2 S S' p := by
  have hp := hP.lt
  have hl := hR.len
  have hS0 : (S ++ [O.lst odd])[S.length]? = some (.lst odd) := by rw [List.getElem?_append_right (Nat.le_refl _), Nat.sub_self]; rfl
  obtain ⟨way, S1, e1, w0, w1, P1, F1⟩ := take_ok (n := n) (Pot.app (T := [.lst odd]) hP) (show (0 : Int) < 6 by decide) (by decide)
  have g1 : S1[S.length]? = some (.lst odd) := (F1.2 _ (by omega)).trans hS0
  have fin : ∀ {d : D} {S2 : Store}, runBody (d18 (calls (n + 1))) 6 [.ref p, .tup xs] S = .ok d S2 → OK2 d → Pot S2 p → Fr1 S1 S2 p → ∃ d S', calls (n + 2) 18 [.ref p, .tup xs] S = .ok d S' ∧ OK2 d ∧ Pot S' p ∧ Fr2 S S' p := fun {d S2} hb ho hP2 hF2 => by
    obtain ⟨S3, e3, P3, F3⟩ := tidy_pot (d := d) ho.2 hp hP2 ((Fr2.app (T := [.lst odd])).trans (F1.trans hF2).to2)
    refine ⟨d, S3, ?_, ho, P3, F3⟩
    show tidy S (runBody (d18 (calls (n + 1))) 6 [.ref p, .tup xs] S) = _
    rw [hb]; exact e3
  have head : ∀ G : DenS, (sSeq (sSet 2 (eNew (dCons (eC .non) (dCons (eC (.bl true)) (dCons (eC (.bl false)) (dCons (eC (.str (PySem.Str.ofString "1"))) (dCons (eTup (dCons (eC (.int 1)) dNil)) (dCons (eLst (dCons (eC (.int 1)) dNil)) (dCons (eTup (dCons (eC (.int 1)) (dCons (eC (.int 2)) dNil))) (dCons (eTup (dCons (eC (.int 0)) (dCons (eC (.int 1)) dNil))) (dCons (eTup (dCons (eC (.int 2)) (dCons (eC (.int 4)) dNil))) (dCons (eTup (dCons (eC (.int 1)) (dCons (eUn oNeg (eC (.int 2))) dNil))) (dCons (eTup (dCons (eC (.int 0)) (dCons (eC (.int 0)) dNil))) (dCons (eTup (dCons (eC (.int 1)) (dCons (eC (.int 0)) dNil))) (dCons (eC (.int 0)) (dCons (eC (.int 3)) (dCons (eTup (dCons (eTup (dCons (eC (.int 1)) (dCons (eC (.int 2)) dNil))) dNil)) dNil)))))))))))))))))
    (sSeq (sExpr (eApp (rcv (eVar 2)) (eTup (dCons (eC (.bl true)) (dCons (eC (.int 1)) dNil)))))
    (sSeq (sSet 3 (eCall (calls (n + 1)) 6 (dCons (eVar 0) (dCons (eC (.int 6)) dNil)))) G))) [some (.ref p), some (.tup xs), none, none, none, none] S = G [some (.ref p), some (.tup xs), some (.ref S.length), some (.int way), none, none] S1 := fun G => by
    have h15 : (S ++ [O.lst odd.dropLast])[S.length]? = some (.lst odd.dropLast) := by rw [List.getElem?_append_right (Nat.le_refl _), Nat.sub_self]; rfl
    have h16 : (S ++ [O.lst odd.dropLast]).set S.length (.lst (odd.dropLast ++ [.tup [.bl true, .int 1]])) = S ++ [.lst odd] := by
      rw [List.set_append_right _ _ (Nat.le_refl _), Nat.sub_self]; rfl
    have ha := append_ref (v := .tup [.bl true, .int 1]) h15 (by rw [sl]; decide)
    rw [h16] at ha
    have e1' := e1
    unfold odd at ha h15 e1'
    simp only [List.dropLast] at ha h15
    simp only [sSeq_ap, sSet_ap, eNew_ap, dCons_ap, eC_ap, dNil_ap, eTup_ap, eLst_ap, eUn_ap, oNeg_i, R.bind, List.set, sExpr_ap, eApp_ap, rcv_ap, eVar_c, eVar_c0, h15, ha, eCall_ap, e1']
  have nilE : oNe (.tup xs) (.tup []) S1 = .ok (.bl (!eqB (.tup xs) (.tup []))) S1 := oNe_fit hR.fit rfl
  have nilB : (!eqB (.tup xs) (.tup [])) = !xs.isEmpty := by cases xs <;> rfl
  rw [nilB] at nilE
  have lenE : ∀ S : Store, oLen [.tup xs] S = .ok (.int xs.length) S := fun _ => rfl
  by_cases c1 : way < 3 ∧ xs ≠ []
  · obtain ⟨c1, c2⟩ := c1
    have c3 : xs.isEmpty = false := by cases xs; exact absurd rfl c2; rfl
    have c4 : 0 < xs.length := List.length_pos_iff.mpr c2
    obtain ⟨k, S2, e2, k0, k1, P2, F2⟩ := take_ok (n := n) (m := xs.length) P1 (by omega) (sm (B := 100) (by omega) (by decide))
    obtain ⟨v, S3, e3, v0, v1, P3, F3⟩ := take_ok (n := n) P2 (show (0 : Int) < 16 by decide) (by decide)
    obtain ⟨o, ho, ho1, ho2⟩ := odd_at v0 v1
    have g3 : S3[S.length]? = some (.lst odd) := ((F2.trans F3).2 _ (by omega)).trans g1
    have q1 : (cutD xs none (some k)).length ≤ 13 := Nat.le_trans cut_len hl
    have q2 : (cutD xs (some (k + 1)) none).length ≤ 13 := Nat.le_trans cut_len hl
    refine fin (d := .tup ((cutD xs none (some k) ++ [o]) ++ cutD xs (some (k + 1)) none)) (S2 := S3) ?_ ?_ P3 (F2.trans F3)
    · unfold runBody d18
      simp only [List.map_cons, List.map_nil, List.length_cons, List.length_nil, List.replicate, List.cons_append, List.nil_append]
      rw [head]
      have i1 := idx_ref g3 ho
      simp only [sSeq_ap, sIf_ap, tAnd_ap, tVal_ap, eBin_ap, eVar_c, eVar_c0, eC_ap, R.bind, oLt_i, c1, decide_true, if_true, eTup_ap, dNil_ap, nilE, c3, Bool.not_false, sSet_ap, eCall_ap, dCons_ap, eFn_ap, lenE, e2, List.set, sRet_ap, eSl, oNo, oPart, e3, i1, oCat_i]
      rw [cat_tup (by simp only [List.length_cons, List.length_nil]; omega)]
      dsimp only
      rw [cat_tup (by rw [List.length_append]; simp only [List.length_cons, List.length_nil]; omega)]
    · refine OK2_tup (by rw [List.length_append, List.length_append]; simp only [List.length_cons, List.length_nil]; omega) fun y hy => ?_
      rw [List.mem_append, List.mem_append, List.mem_singleton] at hy
      rcases hy with (h | h) | h
      · exact ⟨hR.el _ (cut_mem h), hR.no _ (cut_mem h)⟩
      · subst h; exact ⟨ho1, ho2⟩
      · exact ⟨hR.el _ (cut_mem h), hR.no _ (cut_mem h)⟩
  · have c1' : (tAnd (tVal (eBin oLt (eVar 3) (eC (.int 3)))) (tVal (eBin oNe (eVar 1) (eTup dNil)))) [some (.ref p), some (.tup xs), some (.ref S.length), some (.int way), none, none] S1 = .ok false S1 := by
      simp only [tAnd_ap, tVal_ap, eBin_ap, eVar_c, eVar_c0, eC_ap, R.bind, oLt_i, eTup_ap, dNil_ap, nilE]
      by_cases hw : way < 3
      · have : xs = [] := Classical.byContradiction fun h => c1 ⟨hw, h⟩
        subst this
        simp [hw]
      · simp [hw]
    by_cases c2 : way = 3
    · obtain ⟨v, S3, e3, v0, v1, P3, F3⟩ := take_ok (n := n) P1 (show (0 : Int) < 16 by decide) (by decide)
      obtain ⟨o, ho, ho1, ho2⟩ := odd_at v0 v1
      have g3 : S3[S.length]? = some (.lst odd) := (F3.2 _ (by omega)).trans g1
      refine fin (d := .tup ([o] ++ xs)) (S2 := S3) ?_ ?_ P3 F3
      · unfold runBody d18
        simp only [List.map_cons, List.map_nil, List.length_cons, List.length_nil, List.replicate, List.cons_append, List.nil_append]
        rw [head, sSeq_ap, sIf_ap, c1']
        have i1 := idx_ref g3 ho
        simp only [Bool.false_eq_true, if_false, sPass_ap, sSeq_ap, sIf_ap, tVal_ap, eBin_ap, eVar_c, eVar_c0, eC_ap, R.bind, oEq_i, c2, BEq.rfl, if_true, sRet_ap, eTup_ap, dCons_ap, dNil_ap, eCall_ap, e3, i1]
        rw [cat_tup (by simp only [List.length_cons, List.length_nil]; omega)]
        rfl
      · refine OK2_tup (by rw [List.length_append]; simp only [List.length_cons, List.length_nil]; omega) fun y hy => ?_
        rw [List.mem_append, List.mem_singleton] at hy
        rcases hy with h | h
        · subst h; exact ⟨ho1, ho2⟩
        · exact ⟨hR.el _ h, hR.no _ h⟩
    · have c2' : (way == 3) = false := by simp [c2]
      obtain ⟨v, S3, e3, v0, v1, P3, F3⟩ := take_ok (n := n) P1 (show (0 : Int) < 11 by decide) (by decide)
      let some : List D := [.lst xs, .tup ([.int 0] ++ xs), .tup ([.tup [.int 0, .int 1]] ++ xs), .non, .str (PySem.Str.ofString "1 0"), .int 0, .tup [.tup xs], .lst [], .str (PySem.Str.ofString ""), .dct [] [], .tup (xs ++ [.non])]
      have hsome : ∀ x ∈ some, OK2 x := by
        intro x hx
        simp only [some, List.mem_cons, List.not_mem_nil, or_false] at hx
        have rowEl : ∀ y ∈ xs, V1 y ∧ noRef y = true := fun y hy => ⟨hR.el y hy, hR.no y hy⟩
        rcases hx with h | h | h | h | h | h | h | h | h | h | h <;> subst h
        · exact OK2_other rfl rfl (noRefL_all hR.no)
        · refine OK2_tup (by rw [List.length_append]; simp only [List.length_cons, List.length_nil]; omega) fun y hy => ?_
          rw [List.mem_append, List.mem_singleton] at hy
          rcases hy with h | h
          · subst h; exact ⟨V1_int, rfl⟩
          · exact rowEl y h
        · refine OK2_tup (by rw [List.length_append]; simp only [List.length_cons, List.length_nil]; omega) fun y hy => ?_
          rw [List.mem_append, List.mem_singleton] at hy
          rcases hy with h | h
          · subst h; exact ⟨V1_of rfl, rfl⟩
          · exact rowEl y h
        · exact OK2_other rfl rfl rfl
        · exact OK2_other rfl rfl rfl
        · exact OK2_other rfl rfl rfl
        · refine OK2_tup (by simp) fun y hy => ?_
          rw [List.mem_singleton] at hy
          subst hy
          exact ⟨⟨rfl, fun zs e => by cases e; exact ⟨by omega, fun y hy => (hR.el y hy).1⟩, hR.sml⟩, noRefL_all hR.no⟩
        · exact OK2_other rfl rfl rfl
        · exact OK2_other rfl rfl rfl
        · exact OK2_other rfl rfl rfl
        · refine OK2_tup (by rw [List.length_append]; simp only [List.length_cons, List.length_nil]; omega) fun y hy => ?_
          rw [List.mem_append, List.mem_singleton] at hy
          rcases hy with h | h
          · exact rowEl y h
          · subst h; exact ⟨V1_of rfl, rfl⟩
      have hk : v.toNat < some.length := by show v.toNat < 11; omega
      have ei := atI_nat hk
      rw [show ((v.toNat : Nat) : Int) = v by omega] at ei
      refine fin (d := some[v.toNat]) (S2 := S3) ?_ (hsome _ (List.getElem_mem hk)) P3 F3
      unfold runBody d18
      simp only [List.map_cons, List.map_nil, List.length_cons, List.length_nil, List.replicate, List.cons_append, List.nil_append]
      rw [head, sSeq_ap, sIf_ap, c1']
      have k1 : oCat (.tup [.int 0]) (.tup xs) S1 = .ok (.tup ([.int 0] ++ xs)) S1 := cat_tup (by simp only [List.length_cons, List.length_nil]; omega)
      have k2 : oCat (.tup [.tup [.int 0, .int 1]]) (.tup xs) S1 = .ok (.tup ([.tup [.int 0, .int 1]] ++ xs)) S1 := cat_tup (by simp only [List.length_cons, List.length_nil]; omega)
      have k3 : oCat (.tup xs) (.tup [.non]) S1 = .ok (.tup (xs ++ [.non])) S1 := cat_tup (by simp only [List.length_cons, List.length_nil]; omega)
      have k4 : oList [.tup xs] S1 = .ok xs S1 := rfl
      have k5 : oIdx (.lst some) (.int v) S3 = .ok some[v.toNat] S3 := idx_lst ei
      simp only [Bool.false_eq_true, if_false, sPass_ap, sSeq_ap, sIf_ap, tVal_ap, eBin_ap, eVar_c, eVar_c0, eC_ap, R.bind, oEq_i, c2', sSet_ap, eLst_ap, dFn_ap, dCons_ap, dNil_ap, eTup_ap, eCall_ap, k1, k2, k3, k4, List.set, sRet_ap, e3]
      rw [k5]
end K03

set_option maxHeartbeats 4000000
namespace K03
open Py
open PySem (Str sizeLine)
variable {n : Nat} {S : Store}
theorem good_poly {xs : List D} (hg : ∀ j x, xs[j]? = some x → good true j x) : polyB (.tup xs) = true := by
  unfold polyB
  rw [Bool.and_eq_true]
  constructor
  · rw [List.all_eq_true]
    intro x hx
    obtain ⟨j, hj, rfl⟩ := List.mem_iff_getElem.mp hx
    obtain ⟨a, h, _⟩ := hg j _ (List.getElem?_eq_getElem hj)
    rw [h]; rfl
  · cases xs with
    | nil => rfl
    | cons x xs =>
      obtain ⟨a, rfl, _, h⟩ := hg 0 x rfl
      simpa using h rfl
theorem good_brk {xs : List D} (hg : ∀ j x, xs[j]? = some x → good false j x) : brokenB (.tup xs) = true := by
  unfold brokenB
  rw [Bool.and_eq_true]
  constructor
  · rw [List.all_eq_true]
    intro x hx
    obtain ⟨j, hj, rfl⟩ := List.mem_iff_getElem.mp hx
    obtain ⟨a, b, h, h1, h2, _⟩ := hg j _ (List.getElem?_eq_getElem hj)
    rw [h]
    simp [numB, h1, h2]
  · cases xs with
    | nil => rfl
    | cons x xs =>
      obtain ⟨a, b, rfl, _, _, _, _, h⟩ := hg 0 x rfl
      simpa using h rfl
def bendB (Γ : Calls) : DenS := (sSeq (sSet 8 (eCall Γ 18 (dCons (eVar 1) (dCons (eBin oIdx (eLst (dCons (eVar 3) (dCons (eVar 4) dNil))) (eCall Γ 6 (dCons (eVar 1) (dCons (eC (.int 2)) dNil)))) dNil))))
    (sSeq (sSet 9 (eLst (dCons (eCall Γ 14 (dCons (eVar 8) dNil)) (dCons (eCall Γ 15 (dCons (eVar 8) dNil)) dNil))))
    (sIf (tNot (tVal (eCall Γ 7 (dCons (eLst (dCons (eCall Γ 2 (dCons (eVar 8) dNil)) (dCons (eCall Γ 3 (dCons (eVar 8) dNil)) dNil))) (dCons (eVar 9) dNil)))))
    (sRet (eC (.bl false)))
    sPass)))
def turnB (Γ : Calls) : DenS := (sSeq (sPar 3 4 (eCall Γ 17 (dCons (eVar 1) (dCons (eC (.bl true)) dNil))) (eCall Γ 17 (dCons (eVar 1) (dCons (eC (.bl false)) dNil))))
    (sSeq (sSet 5 (eLst (dCons (eCall Γ 2 (dCons (eVar 3) dNil)) (dCons (eCallP Γ 2 [0] dNil (dCons (eVar 3) dNil)) dNil))))
    (sSeq (sSet 5 (eBin oCat (eVar 5) (eLst (dCons (eCall Γ 3 (dCons (eVar 4) dNil)) (dCons (eCallP Γ 3 [0] dNil (dCons (eVar 4) dNil)) dNil)))))
    (sSeq (sIf (tNot (tVal (eCall Γ 7 (dCons (eVar 5) (dCons (eBin oRep (eLst (dCons (eC (.bl true)) dNil)) (eC (.int 4))) dNil)))))
    (sRet (eC (.bl false)))
    sPass)
    (sSeq (sSet 6 (eBin oSub (eFn oLen (dCons (eVar 3) dNil)) (eC (.int 1))))
    (sSeq (sIf (tNot (tVal (eCall Γ 7 (dCons (eLst (dCons (eCall Γ 5 (dCons (eVar 3) dNil)) (dCons (eCallP Γ 5 [0] dNil (dCons (eVar 3) dNil)) dNil))) (dCons (eLst (dCons (eVar 6) (dCons (eVar 6) dNil))) dNil)))))
    (sRet (eC (.bl false)))
    sPass)
    (sFor (gNm 7) (dRng1 (eC (.int 8))) (bendB Γ))))))))
def Ev (f k w b o5 o6 o7 o8 o9 : Option D) : Env := [f, some (.ref 0), k, w, b, o5, o6, o7, o8, o9]
theorem bend_ok {f k o5 o6 o7 o8 o9 : Option D} {xs ys : List D} (hP : Pot S 0) (h1 : Row xs) (h2 : Row ys) :
    ∃ o8' o9' S', bendB (calls (n + 4)) (Ev f k (some (.tup xs)) (some (.tup ys)) o5 o6 o7 o8 o9) S = .next (Ev f k (some (.tup xs)) (some (.tup ys)) o5 o6 o7 o8' o9') S' ∧ Pot S' 0 := by
  obtain ⟨v, S1, e1, v0, v1, P1, F1⟩ := take_ok (n := n + 3) hP (show (0 : Int) < 2 by decide) (by decide)
  have hz : ∃ zs, L2.atI [D.tup xs, .tup ys] v = some (.tup zs) ∧ Row zs := by
    have : v = 0 ∨ v = 1 := by omega
    rcases this with rfl | rfl
    · exact ⟨xs, rfl, h1⟩
    · exact ⟨ys, rfl, h2⟩
  obtain ⟨zs, hz, hR⟩ := hz
  obtain ⟨d, S2, e2, ok, P2, F2⟩ := bent_ok (n := n + 2) P1 hR
  have i1 : oIdx (.lst [.tup xs, .tup ys]) (.int v) S1 = .ok (.tup zs) S1 := idx_lst hz
  have s1 := same_bs (n := n + 2) (S := S2) (bs := [polyB d, brokenB d]) (by simp)
  simp only [List.map_cons, List.map_nil] at s1
  refine ⟨some d, some (.lst [.bl (polyB d), .bl (brokenB d)]), S2, ?_, P2⟩
  unfold bendB Ev
  simp only [sSeq_ap, sSet_ap, eCall_ap, dCons_ap, eVar_c, eVar_c0, eBin_ap, eLst_ap, dNil_ap, eC_ap, R.bind, e1, i1, e2, List.set, is_poly' (n := n + 2) ok.1, is_brk' (n := n + 1) ok.1, sIf_ap, tNot_ap, tVal_ap, is_poly (n := n + 2) ok.1, is_brk (n := n + 1) ok.1, s1, Bool.not_true, Bool.false_eq_true, if_false, sPass_ap]
theorem turn_ok {f k w b o5 o6 o7 o8 o9 : Option D} (hP : Pot S 0) :
    ∃ w' b' o5' o6' o7' o8' o9' S', turnB (calls (n + 4)) (Ev f k w b o5 o6 o7 o8 o9) S = .next (Ev f k w' b' o5' o6' o7' o8' o9') S' ∧ Pot S' 0 := by
  obtain ⟨xs, S1, e1, l1, g1, P1, F1⟩ := row_ok (n := n + 1) true hP
  obtain ⟨ys, S2, e2, l2, g2, P2, F2⟩ := row_ok (n := n + 1) false P1
  have R1 := row_row true l1 g1
  have R2 := row_row false l2 g2
  have b1 := good_poly g1
  have b2 := good_brk g2
  have s1 := same_bs (n := n + 2) (S := S2) (bs := [true, true, true, true]) (by decide)
  have s2 := same_is (n := n + 2) (S := S2) (bs := [(xs.length : Int) - 1, (xs.length : Int) - 1]) (by simp)
  simp only [List.map_cons, List.map_nil] at s1 s2
  have r1 : oRep (.lst [.bl true]) (.int 4) S2 = .ok (.lst [.bl true, .bl true, .bl true, .bl true]) S2 := by rfl
  have c1 : oCat (.lst [.bl true, .bl true]) (.lst [.bl true, .bl true]) S2 = .ok (.lst [.bl true, .bl true, .bl true, .bl true]) S2 := by rfl
  have ln : oLen [.tup xs] S2 = .ok (.int xs.length) S2 := rfl
  let Inv : Nat → Env → Store → Prop := fun i e U => ∃ o7' o8' o9', e = Ev f k (some (.tup xs)) (some (.tup ys)) (some (.lst [.bl true, .bl true, .bl true, .bl true])) (some (.int ((xs.length : Int) - 1))) o7' o8' o9' ∧ Pot U 0
  obtain ⟨e', S', hf, o7', o8', o9', rfl, PU⟩ := forL_inv (g := gNm 7) (b := bendB (calls (n + 4))) (xs := intsD 0 (8 : Int).toNat) Inv (fun i x e U hx hI => by
    obtain ⟨o7', o8', o9', rfl, PU⟩ := hI
    obtain ⟨o8'', o9'', U', e3, P3⟩ := bend_ok (n := n) (f := f) (k := k) (o5 := some (.lst [.bl true, .bl true, .bl true, .bl true])) (o6 := some (.int ((xs.length : Int) - 1))) (o7 := some x) (o8 := o8') (o9 := o9') PU R1 R2
    exact ⟨_, rfl, _, _, .inl e3, some x, o8'', o9'', rfl, P3⟩) (Ev f k (some (.tup xs)) (some (.tup ys)) (some (.lst [.bl true, .bl true, .bl true, .bl true])) (some (.int ((xs.length : Int) - 1))) o7 o8 o9) S2 ⟨o7, o8, o9, rfl, P2⟩
  refine ⟨some (.tup xs), some (.tup ys), some (.lst [.bl true, .bl true, .bl true, .bl true]), some (.int ((xs.length : Int) - 1)), o7', o8', o9', S', ?_, PU⟩
  unfold turnB
  rw [← hf, ← sFor_L (gi := dRng1 (eC (.int 8))) (S := S2) (dRng1_ok (j := 8) rfl (by decide) (by decide))]
  have pm : ∀ d : D, perm [0] ([] ++ [d]) = [d] := fun d => rfl
  simp only [Ev, sSeq_ap, sPar_ap, eCall_ap, dCons_ap, eVar_c, eVar_c0, dNil_ap, eC_ap, R.bind, e1, e2, List.set, sSet_ap, eLst_ap, eCallP_ap, pm, is_poly (n := n + 2) R1.v2, b1, is_brk (n := n + 1) R2.v2, b2, eBin_ap, c1, sIf_ap, tNot_ap, tVal_ap, r1, s1, Bool.not_true, Bool.false_eq_true, if_false, sPass_ap, eFn_ap, ln, oSub_i, deg_ok (n := n) R1.v2 b1, s2]
theorem law_ok {ns : List Int} (hl : ns.length ≤ 63) : ∃ S', calls (n + 5) 19 [.fls ns] [] = .ok (.bl true) S' := by
  let pot : List D := .int 0 :: .int 7 :: .int 3 :: ns.map .int
  have P0 : Pot [.lst pot] 0 := ⟨0, 7, 3, ns, rfl, by decide, by decide, by decide, by decide, by omega, hl⟩
  let Inv : Nat → Env → Store → Prop := fun i e U => ∃ k w b o5 o6 o7 o8 o9, e = Ev (some (.fls ns)) k w b o5 o6 o7 o8 o9 ∧ Pot U 0
  obtain ⟨e', S', hf, k, w, b, o5, o6, o7, o8, o9, rfl, PU⟩ := forL_inv (g := gNm 2) (b := turnB (calls (n + 4))) (xs := intsD 0 (6 : Int).toNat) Inv (fun i x e U hx hI => by
    obtain ⟨k, w, b, o5, o6, o7, o8, o9, rfl, PU⟩ := hI
    obtain ⟨w', b', o5', o6', o7', o8', o9', U', e3, P3⟩ := turn_ok (n := n) (f := some (.fls ns)) (k := some x) (w := w) (b := b) (o5 := o5) (o6 := o6) (o7 := o7) (o8 := o8) (o9 := o9) PU
    exact ⟨_, rfl, _, _, .inl e3, some x, w', b', o5', o6', o7', o8', o9', rfl, P3⟩) (Ev (some (.fls ns)) none none none none none none none none) [.lst pot] ⟨none, none, none, none, none, none, none, none, rfl, P0⟩
  have e : ∃ T, runBody (d19 (calls (n + 4))) 10 [.fls ns] [] = .ok (.bl true) T := by
    refine ⟨S', ?_⟩
    have hd : d19 (calls (n + 4)) = sSeq (sSet 1 (eNew (dCat (eLst (dCons (eC (.int 0)) (dCons (eC (.int 7)) (dCons (eC (.int 3)) dNil)))) (eLst (dFn oList (dCons (eVar 0) dNil)))))) (sSeq (sFor (gNm 2) (dRng1 (eC (.int 6))) (turnB (calls (n + 4)))) (sRet (eC (.bl true)))) := rfl
    have l1 : oList [.fls ns] [] = .ok (ns.map .int) [] := rfl
    have h3 : ([D.int 0, .int 7, .int 3] : List D).length + (ns.map D.int).length ≤ sizeLine := by rw [sl]; simp only [List.length_cons, List.length_nil, List.length_map]; omega
    have e0 : ∀ env : Env, dCat (eLst (dCons (eC (.int 0)) (dCons (eC (.int 7)) (dCons (eC (.int 3)) dNil)))) (eLst (dFn oList (dCons (eVar 0) dNil))) (some (.fls ns) :: env) [] = .ok pot [] := fun env => by
      unfold dCat
      simp only [eLst_ap, dCons_ap, eC_ap, dNil_ap, dFn_ap, eVar_c0, R.bind, l1, asL]
      rw [if_pos h3]
      rfl
    unfold runBody
    rw [hd]
    simp only [List.map_cons, List.map_nil, List.length_cons, List.length_nil, List.replicate, List.cons_append, List.nil_append, sSeq_ap, sSet_ap, eNew_ap, e0, R.bind, List.set]
    have := hf
    rw [← sFor_L (gi := dRng1 (eC (.int 6))) (S := [.lst pot]) (dRng1_ok (j := 6) rfl (by decide) (by decide))] at this
    unfold Ev at this
    rw [this]
    simp only [sRet_ap, eC_ap]
  obtain ⟨T, hT⟩ := e
  have : calls (n + 5) 19 [.fls ns] [] = tidy [] (runBody (d19 (calls (n + 4))) 10 [.fls ns] []) := rfl
  rw [this, hT]
  exact ⟨[], by have := tidy_no (S := []) (T := T) (d := .bl true) rfl; simpa using this⟩
theorem all_holds : PySem.Challenge.rw_wholerates_k03_whole_polynomials_judged.Holds := holds_of 5 ⟨rfl, by decide, by decide⟩ fun ns hl => law_ok hl
end K03

theorem PySem.Challenge.cw_wholerates_k03_whole_polynomials_judged_holds : PySem.Challenge.rw_wholerates_k03_whole_polynomials_judged.Holds := by
  exact K03.all_holds
