import PyProof.Rows.All
import Wide.All
import OpenK.AllK
import Wide.FinOn
import HandS.ForExc
import HandS.Wide
import HandS.Gcd
import HandS.IsInst
import HandS.ExcInit
import HandS.ExcIs
import HandS.CallSlots
import HandS.Iter
import HandS.Walk
import HandS.Comp
import HandS.Defaults
import HandS.TupAny
import HandS.ExcCtx
import HandS.List
import HandS.TupMul
import HandS.Deep
import HandS.More
import KE.KMathGC
import HandS.Text
import HandS.Zip
import KE.KExcIs
import HandS.ExcField
import HandS.HeadHook2
import PyProof.Draws
import HandS.Style
import HandS.Dict
import PyProof.P3In
import HandS.Head0
import HandS.Head1
import HandS.Head2
import HandS.Head3
import HandS.HeadEnd
import HandS.HeadHook1
import HandS.Words
import HandS.TryMany
import HandS.Hot
import HandS.EndBits
import PyProof.ListStr
import PySem.Challenge.RW_wholerates_k73_messages_that_are_asked
set_option Elab.async false
set_option linter.all false
set_option maxRecDepth 100000
set_option maxHeartbeats 2000000
/-! PyA: plain data, the store of what is changed, what an expression or a statement yields: plain functions, no program in sight. -/
namespace Py
open PySem (Str sizeLine)

/-- a value as plain data: tuples, lists that nobody changes, exceptions are what they hold; ref n: the n-th object of the store -/
inductive D where
  | non | bl (b : Bool) | int (i : Int) | str (x : Str)
  | tup (xs : List D) | lst (xs : List D) | ref (n : Nat) | exc (c : Nat) (v : D)
  /-- the law's own list of ints: nobody changes it -/
  | fls (is : List Int)
  /-- a dict that nobody changes: its keys, its values -/
  | dct (ks : List (Sum Int Str)) (vs : List D)
  deriving Inhabited
/-- what is changed -/
inductive O where
  | dead | lst (xs : List D) | dct (ks : List (Sum Int Str)) (vs : List D)
abbrev Store := List O
inductive R (α : Type) where
  | ok (a : α) (S : Store) | err (c : Nat) (v : D) (S : Store) | bad
@[simp] def R.bind {α β : Type} (r : R α) (f : α → Store → R β) : R β := match r with
  | .ok a S => f a S | .err c v S => .err c v S | .bad => .bad
abbrev Env := List (Option D)
abbrev Den := Env → Store → R D
abbrev Dens := Env → Store → R (List D)
abbrev DenT := Env → Store → R Bool
inductive RS where
  | next (e : Env) (S : Store) | ret (d : D) (S : Store) | brk (e : Env) (S : Store) | cont (e : Env) (S : Store)
  | err (c : Nat) (v : D) (e : Env) (S : Store) | bad
abbrev DenS := Env → Store → RS
/-- the defs that may be called: by number -/
abbrev Calls := Nat → List D → Store → R D

@[simp] def R.ofO {α : Type} (o : Option α) (S : Store) : R α := match o with | some a => .ok a S | none => .bad

/-! ### expressions -/
def eVar (i : Nat) : Den := fun e S => match e[i]? with | some (some d) => .ok d S | _ => .bad
def eC (d : D) : Den := fun _ S => .ok d S
def dNil : Dens := fun _ S => .ok [] S
def dCons (f : Den) (g : Dens) : Dens := fun e S => (f e S).bind fun a S1 => (g e S1).bind fun as S2 => .ok (a :: as) S2
def eTup (g : Dens) : Den := fun e S => (g e S).bind fun as S1 => .ok (.tup as) S1
def eLst (g : Dens) : Den := fun e S => (g e S).bind fun as S1 => .ok (.lst as) S1
/-- a fresh list that will be changed -/
def eNew (g : Dens) : Den := fun e S => (g e S).bind fun as S1 => .ok (.ref S1.length) (S1 ++ [.lst as])
abbrev Op2 := D → D → Store → R D
abbrev Op1 := D → Store → R D
def eBin (o : Op2) (f g : Den) : Den := fun e S => (f e S).bind fun a S1 => (g e S1).bind fun b S2 => o a b S2
def eUn (o : Op1) (f : Den) : Den := fun e S => (f e S).bind fun a S1 => o a S1
/-- a built-in function of values -/
abbrev OpN := List D → Store → R D
def eFn (o : OpN) (g : Dens) : Den := fun e S => (g e S).bind fun as S1 => o as S1
def eCall (Γ : Calls) (i : Nat) (g : Dens) : Den := fun e S => (g e S).bind fun as S1 => Γ i as S1
/-- with keywords: the values in the order of the parameters by p -/
def eCallK (Γ : Calls) (i : Nat) (p : List D → List D → List D) (g h : Dens) : Den := fun e S => (g e S).bind fun as S1 => (h e S1).bind fun bs S2 => Γ i (p as bs) S2
def eIf (t : DenT) (f g : Den) : Den := fun e S => (t e S).bind fun b S1 => if b then f e S1 else g e S1

/-! ### what values do -/
def asL (d : D) (S : Store) : Option (List D) := match d with
  | .lst xs => some xs
  | .ref n => (match S[n]? with | some (.lst xs) => some xs | _ => none)
  | _ => none
/-- a list or a tuple -/
def asSq (d : D) (S : Store) : Option (List D) := match d with
  | .tup xs => some xs
  | .fls is => some (is.map .int)
  | d => asL d S
def bits (i : Int) : Nat := i.natAbs.log2 + 1
def mulOk (i j : Int) : Bool := decide (bits i + bits j ≤ 134217728)
def divOk (j : Int) : Bool := decide (j ≠ 0) && decide (j.natAbs.log2 < 9000)
def powOk (i j : Int) : Bool := decide (0 ≤ j) && (decide (j ≤ 1000000) && decide (i.natAbs < 2 ^ 64))
def oAdd : Op2 := fun a b S => match a, b with
  | .int i, .int j => .ok (.int (i + j)) S
  | .str x, .str y => if x.length + y.length ≤ sizeLine then .ok (.str (x ++ y)) S else .bad
  | .tup xs, .tup ys => if xs.length + ys.length ≤ sizeLine then .ok (.tup (xs ++ ys)) S else .bad
  | _, _ => .bad
def oSub : Op2 := fun a b S => match a, b with | .int i, .int j => .ok (.int (i - j)) S | _, _ => .bad
def oMul : Op2 := fun a b S => match a, b with | .int i, .int j => if mulOk i j then .ok (.int (i * j)) S else .bad | _, _ => .bad
def oFdiv : Op2 := fun a b S => match a, b with | .int i, .int j => if divOk j then .ok (.int (i.fdiv j)) S else .bad | _, _ => .bad
def oMod : Op2 := fun a b S => match a, b with | .int i, .int j => if j ≠ 0 then .ok (.int (i.fmod j)) S else .bad | _, _ => .bad
def oPow : Op2 := fun a b S => match a, b with | .int i, .int j => if powOk i j then .ok (.int (i ^ j.toNat)) S else .bad | _, _ => .bad
def oNeg : Op1 := fun a S => match a with | .int i => .ok (.int (-i)) S | _ => .bad
def oLt : Op2 := fun a b S => match a, b with | .int i, .int j => .ok (.bl (decide (i < j))) S | _, _ => .bad
def oLe : Op2 := fun a b S => match a, b with | .int i, .int j => .ok (.bl (decide (i ≤ j))) S | _, _ => .bad
def oGt : Op2 := fun a b S => match a, b with | .int i, .int j => .ok (.bl (decide (j < i))) S | _, _ => .bad
def oGe : Op2 := fun a b S => match a, b with | .int i, .int j => .ok (.bl (decide (j ≤ i))) S | _, _ => .bad
def isNon : D → Bool | .non => true | _ => false
/-- is None, is not None -/
def oIsN : Op1 := fun a S => .ok (.bl (isNon a)) S
def oNotN : Op1 := fun a S => .ok (.bl (!isNon a)) S

/-! ### == -/
def okS (x : Str) : Bool := x.cps.all (· < 0x110000)
mutual
def pureB : D → Bool
  | .tup xs => pureL xs | .lst xs => pureL xs | .ref _ => false | .exc _ _ => false | .fls _ => false | .dct _ _ => false | .non => true | .bl _ => true | .int _ => true | .str x => okS x
def pureL : List D → Bool
  | [] => true | x :: xs => pureB x && pureL xs
end
mutual
def depth : D → Nat
  | .tup xs => depthL xs + 1 | .lst xs => depthL xs + 1 | _ => 0
def depthL : List D → Nat
  | [] => 0 | x :: xs => max (depth x) (depthL xs)
end
def b2i (b : Bool) : Int := if b then 1 else 0
mutual
def eqB : D → D → Bool
  | .non, .non => true
  | .bl a, .bl b => a == b
  | .bl a, .int j => b2i a == j
  | .int i, .bl b => i == b2i b
  | .int i, .int j => i == j
  | .str x, .str y => x == y
  | .lst xs, .lst ys => eqL xs ys
  | .tup xs, .tup ys => eqL xs ys
  | _, _ => false
def eqL : List D → List D → Bool
  | [], [] => true
  | x :: xs, y :: ys => eqB x y && eqL xs ys
  | [], _ :: _ => false
  | _ :: _, [] => false
end
def fit (d : D) : Bool := pureB d && decide (depth d ≤ 60)
/-! ### what the refs hold -/
mutual
def mapR (g : Nat → Option D) : D → Option D
  | .tup xs => (mapRL g xs).map .tup
  | .lst xs => (mapRL g xs).map .lst
  | .ref n => g n
  | .exc c v => (mapR g v).map (.exc c)
  | .non => some .non | .bl b => some (.bl b) | .int i => some (.int i) | .str x => some (.str x) | .fls is => some (.fls is)
  | .dct ks vs => (mapRL g vs).map (.dct ks)
def mapRL (g : Nat → Option D) : List D → Option (List D)
  | [] => some []
  | x :: xs => (mapR g x).bind fun y => (mapRL g xs).map (y :: ·)
end
/-- the refs from m on are the lists that they hold -/
def resN (m : Nat) (S : Store) : Nat → Nat → Option D
  | 0, n => if n < m then some (.ref n) else none
  | f + 1, n => if n < m then some (.ref n) else match S[n]? with | some (.lst xs) => (mapRL (resN m S f) xs).map .lst | _ => none
def res (m : Nat) (S : Store) (d : D) : Option D := mapR (resN m S 9) d
mutual
/-- no refs at all -/
def noRef : D → Bool
  | .tup xs => noRefL xs | .lst xs => noRefL xs | .ref _ => false | .exc _ v => noRef v | .fls _ => true | .dct _ vs => noRefL vs | .non => true | .bl _ => true | .int _ => true | .str _ => true
def noRefL : List D → Bool
  | [] => true | x :: xs => noRef x && noRefL xs
end
mutual
theorem mapR_no {g : Nat → Option D} : ∀ {d : D}, noRef d = true → mapR g d = some d
  | .tup xs, h => by unfold mapR; rw [mapRL_no (by unfold noRef at h; exact h)]; rfl
  | .lst xs, h => by unfold mapR; rw [mapRL_no (by unfold noRef at h; exact h)]; rfl
  | .exc c v, h => by unfold mapR; rw [mapR_no (by unfold noRef at h; exact h)]; rfl
  | .ref n, h => by unfold noRef at h; cases h
  | .non, _ => by unfold mapR; rfl
  | .bl _, _ => by unfold mapR; rfl
  | .int _, _ => by unfold mapR; rfl
  | .str _, _ => by unfold mapR; rfl
  | .fls _, _ => by unfold mapR; rfl
  | .dct ks vs, h => by unfold mapR; rw [mapRL_no (by unfold noRef at h; exact h)]; rfl
theorem mapRL_no {g : Nat → Option D} : ∀ {ds : List D}, noRefL ds = true → mapRL g ds = some ds
  | [], _ => by unfold mapRL; rfl
  | x :: xs, h => by
    unfold noRefL at h
    rw [Bool.and_eq_true] at h
    unfold mapRL
    rw [mapR_no h.1, mapRL_no h.2]
    rfl
end
mutual
theorem noRef_pure : ∀ {d : D}, pureB d = true → noRef d = true
  | .tup xs, h => by unfold noRef; exact noRefL_pure (by unfold pureB at h; exact h)
  | .lst xs, h => by unfold noRef; exact noRefL_pure (by unfold pureB at h; exact h)
  | .exc c v, h => by unfold pureB at h; cases h
  | .ref n, h => by unfold pureB at h; cases h
  | .non, _ => by unfold noRef; rfl
  | .bl _, _ => by unfold noRef; rfl
  | .int _, _ => by unfold noRef; rfl
  | .str _, _ => by unfold noRef; rfl
  | .fls _, h => by unfold pureB at h; cases h
  | .dct _ _, h => by unfold pureB at h; cases h
theorem noRefL_pure : ∀ {ds : List D}, pureL ds = true → noRefL ds = true
  | [], _ => by unfold noRefL; rfl
  | x :: xs, h => by
    unfold pureL at h
    rw [Bool.and_eq_true] at h
    unfold noRefL
    rw [noRef_pure h.1, noRefL_pure h.2]
    rfl
end
theorem res_no {m : Nat} {S : Store} {d : D} (h : noRef d = true) : res m S d = some d := mapR_no h
/-- the store's old entries are as they were, or hold nothing new -/
def Old (S S' : Store) : Prop := ∀ n, n < S.length → S'[n]? = S[n]? ∨ ∃ xs, S'[n]? = some (.lst xs) ∧ mapRL (fun k => if k < S.length then some (.ref k) else none) xs = some xs
theorem Old.refl (S : Store) (T : Store) : Old S (S ++ T) := fun n h => .inl (List.getElem?_append_left h)
open Classical in
/-- what was laid into the store since S and is reached by the value alone is told as a value -/
noncomputable def tidy (S : Store) (r : R D) : R D := match r with
  | .ok d S' => if S'.length ≤ S.length then .ok d S' else (match res S.length S' d with | some d' => if Old S S' then .ok d' (S'.take S.length) else .ok d S' | none => .ok d S')
  | .err c d S' => if S'.length ≤ S.length then .err c d S' else (match res S.length S' d with | some d' => if Old S S' then .err c d' (S'.take S.length) else .err c d S' | none => .err c d S')
  | .bad => .bad
@[simp] theorem tidy_bad {S : Store} : tidy S .bad = .bad := rfl
theorem tidy_ok {S S' : Store} {d : D} (h : S'.length ≤ S.length) : tidy S (.ok d S') = .ok d S' := by simp only [tidy, if_pos h]
theorem tidy_err {S S' : Store} {c : Nat} {d : D} (h : S'.length ≤ S.length) : tidy S (.err c d S') = .err c d S' := by simp only [tidy, if_pos h]
@[simp] theorem tidy_ok0 {S : Store} {d : D} : tidy S (.ok d S) = .ok d S := tidy_ok (Nat.le_refl _)
@[simp] theorem tidy_err0 {S : Store} {c : Nat} {d : D} : tidy S (.err c d S) = .err c d S := tidy_err (Nat.le_refl _)
theorem tidy_app {S T : Store} {d d' : D} (h : res S.length (S ++ T) d = some d') : tidy S (.ok d (S ++ T)) = .ok d' S ∨ (T = [] ∧ tidy S (.ok d (S ++ T)) = .ok d S) := by
  by_cases hT : (S ++ T).length ≤ S.length
  · have : T = [] := by
      rw [List.length_append] at hT
      exact List.eq_nil_of_length_eq_zero (by omega)
    subst this
    rw [List.append_nil]
    exact .inr ⟨rfl, tidy_ok0⟩
  · unfold tidy
    simp only [if_neg hT, h, if_pos (Old.refl S T)]
    rw [List.take_left]
    exact .inl rfl
theorem tidy_no {S T : Store} {d : D} (h : noRef d = true) : tidy S (.ok d (S ++ T)) = .ok d S := by
  rcases tidy_app (S := S) (T := T) (res_no h) with z | ⟨_, z⟩ <;> exact z
theorem tidy_noErr {S T : Store} {c : Nat} {d : D} (h : noRef d = true) : tidy S (.err c d (S ++ T)) = .err c d S := by
  by_cases hT : (S ++ T).length ≤ S.length
  · have : T = [] := by
      rw [List.length_append] at hT
      exact List.eq_nil_of_length_eq_zero (by omega)
    subst this
    rw [List.append_nil]
    exact tidy_err0
  · unfold tidy
    simp only [if_neg hT, res_no h, if_pos (Old.refl S T)]
    rw [List.take_left]
/-- all that it reaches in the store -/
def look (d : D) (S : Store) : Option D := res 0 S d
theorem look_no {S : Store} {d : D} (h : noRef d = true) : look d S = some d := res_no h
def oEq : Op2 := fun a b S => match look a S, look b S with
  | some x, some y => if fit x && fit y then .ok (.bl (eqB x y)) S else .bad
  | _, _ => .bad
def oNe : Op2 := fun a b S => match look a S, look b S with
  | some x, some y => if fit x && fit y then .ok (.bl (!eqB x y)) S else .bad
  | _, _ => .bad

/-! ### tests -/
def tVal (f : Den) : DenT := fun e S => (f e S).bind fun a S1 => match a with | .bl b => .ok b S1 | _ => .bad
def tNot (t : DenT) : DenT := fun e S => (t e S).bind fun b S1 => .ok (!b) S1
def tAnd (t u : DenT) : DenT := fun e S => (t e S).bind fun b S1 => if b then u e S1 else .ok false S1
def tOr (t u : DenT) : DenT := fun e S => (t e S).bind fun b S1 => if b then .ok true S1 else u e S1
/-- and, or, not as values: all but the last True or False -/
def eAnd (f g : Den) : Den := fun e S => (f e S).bind fun a S1 => match a with | .bl true => g e S1 | .bl false => .ok (.bl false) S1 | _ => .bad
def eOr (f g : Den) : Den := fun e S => (f e S).bind fun a S1 => match a with | .bl true => .ok (.bl true) S1 | .bl false => g e S1 | _ => .bad
def eNot (f : Den) : Den := fun e S => (f e S).bind fun a S1 => match a with | .bl b => .ok (.bl (!b)) S1 | _ => .bad

/-! ### statements -/
def sPass : DenS := fun e S => .next e S
def sSeq (a b : DenS) : DenS := fun e S => match a e S with | .next e1 S1 => b e1 S1 | r => r
def sExpr (f : Den) : DenS := fun e S => match f e S with | .ok _ S1 => .next e S1 | .err c v S1 => .err c v e S1 | .bad => .bad
def sSet (i : Nat) (f : Den) : DenS := fun e S => match f e S with | .ok d S1 => .next (e.set i (some d)) S1 | .err c v S1 => .err c v e S1 | .bad => .bad
def sRet (f : Den) : DenS := fun e S => match f e S with | .ok d S1 => .ret d S1 | .err c v S1 => .err c v e S1 | .bad => .bad
def sRetN : DenS := fun _ S => .ret .non S
def sIf (t : DenT) (a b : DenS) : DenS := fun e S => match t e S with | .ok c S1 => if c then a e S1 else b e S1 | .err c v S1 => .err c v e S1 | .bad => .bad
def sBrk : DenS := fun e S => .brk e S
def sCont : DenS := fun e S => .cont e S
/-- raise C(e) -/
def sRaise (c : Nat) (f : Den) : DenS := fun e S => match f e S with | .ok d S1 => .err c d e S1 | .err c v S1 => .err c v e S1 | .bad => .bad

/-! ### targets -/
/-- a target: a value's place in the slots -/
abbrev Tgt := D → Env → Store → Option Env
def gNm (i : Nat) : Tgt := fun d e _ => some (e.set i (some d))
def gTs : List Nat → List D → Env → Option Env
  | [], [], e => some e
  | i :: is, d :: ds, e => gTs is ds (e.set i (some d))
  | _, _, _ => none

/-! ### loops -/
def forL (g : Tgt) (b : DenS) : List D → DenS
  | [] => fun e S => .next e S
  | x :: xs => fun e S => match g x e S with
    | none => .bad
    | some e1 => (match b e1 S with
      | .next e2 S2 => forL g b xs e2 S2
      | .cont e2 S2 => forL g b xs e2 S2
      | .brk e2 S2 => .next e2 S2
      | .ret d S2 => .ret d S2
      | .err c v e2 S2 => .err c v e2 S2
      | .bad => .bad)
/-- what a loop walks: its i-th item as the store then is (none: it ends) -/
abbrev Walk := Nat → Store → Option (Option D)
def wkL (xs : List D) : Walk := fun i _ => some xs[i]?
def wkR (n : Nat) : Walk := fun i S => match S[n]? with | some (.lst xs) => some xs[i]? | _ => none
def wkE (w : Walk) : Walk := fun i S => (w i S).map fun o => o.map fun d => .tup [.int i, d]
def wkZ (a b : Walk) : Walk := fun i S => match a i S, b i S with
  | some (some x), some (some y) => some (some (.tup [x, y]))
  | some none, some _ => some none
  | some (some _), some none => some none
  | _, _ => none
theorem wkE_L (xs : List D) : wkE (wkL xs) = wkL (xs.mapIdx fun i d => .tup [.int i, d]) := by
  funext i S
  simp [wkE, wkL]
theorem wkZ_L (xs ys : List D) : wkZ (wkL xs) (wkL ys) = wkL (List.zipWith (fun x y => .tup [x, y]) xs ys) := by
  funext i S
  simp only [wkZ, wkL, List.getElem?_zipWith]
  cases xs[i]? <;> cases ys[i]? <;> rfl
abbrev DenI := Env → Store → R (Walk × Nat)
def forW (g : Tgt) (b : DenS) (w : Walk) : Nat → Nat → DenS
  | 0, i => fun e S => match w i S with | some none => .next e S | _ => .bad
  | f + 1, i => fun e S => match w i S with
    | none => .bad
    | some none => .next e S
    | some (some x) => (match g x e S with
      | none => .bad
      | some e1 => (match b e1 S with
        | .next e2 S2 => forW g b w f (i + 1) e2 S2
        | .cont e2 S2 => forW g b w f (i + 1) e2 S2
        | .brk e2 S2 => .next e2 S2
        | .ret d S2 => .ret d S2
        | .err c v e2 S2 => .err c v e2 S2
        | .bad => .bad))
def sFor (g : Tgt) (i : DenI) (b : DenS) : DenS := fun e S => match i e S with
  | .ok w S1 => forW g b w.1 w.2 0 e S1
  | .err c v S1 => .err c v e S1
  | .bad => .bad
theorem forW_L (g : Tgt) (b : DenS) (xs : List D) : ∀ (f i : Nat) (e : Env) (S : Store), i + f = xs.length → forW g b (wkL xs) f i e S = forL g b (xs.drop i) e S
  | 0, i, e, S, h => by
    have hi : xs.length ≤ i := by omega
    unfold forW
    rw [List.drop_eq_nil_of_le hi]
    simp [wkL, List.getElem?_eq_none hi, forL]
  | f + 1, i, e, S, h => by
    have hi : i < xs.length := by omega
    unfold forW
    rw [List.drop_eq_getElem_cons hi]
    simp only [wkL, List.getElem?_eq_getElem hi]
    unfold forL
    cases g xs[i] e S with
    | none => rfl
    | some e1 =>
      dsimp only
      cases b e1 S with
      | next e2 S2 => exact forW_L g b xs f (i + 1) e2 S2 (by omega)
      | cont e2 S2 => exact forW_L g b xs f (i + 1) e2 S2 (by omega)
      | _ => rfl
theorem forW_all (g : Tgt) (b : DenS) (xs : List D) (e : Env) (S : Store) : forW g b (wkL xs) xs.length 0 e S = forL g b xs e S := by
  rw [forW_L g b xs xs.length 0 e S (by omega), List.drop_zero]
theorem sFor_L {g : Tgt} {gi : DenI} {b : DenS} {e : Env} {S S1 : Store} {xs : List D} (h : gi e S = .ok (wkL xs, xs.length) S1) : sFor g gi b e S = forL g b xs e S1 := by
  unfold sFor
  rw [h]
  exact forW_all g b xs e S1
/-- a list that the body leaves as it is -/
theorem forW_R (g : Tgt) (b : DenS) (n : Nat) (xs : List D) (hb : ∀ (e : Env) (S : Store) (e' : Env) (S' : Store), S[n]? = some (.lst xs) → (b e S = .next e' S' ∨ b e S = .cont e' S') → S'[n]? = some (.lst xs)) :
    ∀ (f i : Nat) (e : Env) (S : Store), S[n]? = some (.lst xs) → i + f = xs.length → forW g b (wkR n) f i e S = forL g b (xs.drop i) e S
  | 0, i, e, S, hS, h => by
    have hi : xs.length ≤ i := by omega
    unfold forW
    rw [List.drop_eq_nil_of_le hi]
    simp [wkR, hS, List.getElem?_eq_none hi, forL]
  | f + 1, i, e, S, hS, h => by
    have hi : i < xs.length := by omega
    unfold forW
    rw [List.drop_eq_getElem_cons hi]
    simp only [wkR, hS, List.getElem?_eq_getElem hi]
    unfold forL
    cases g xs[i] e S with
    | none => rfl
    | some e1 =>
      dsimp only
      cases q : b e1 S with
      | next e2 S2 => exact forW_R g b n xs hb f (i + 1) e2 S2 (hb _ _ _ _ hS (.inl q)) (by omega)
      | cont e2 S2 => exact forW_R g b n xs hb f (i + 1) e2 S2 (hb _ _ _ _ hS (.inr q)) (by omega)
      | _ => rfl
/-- a list, a tuple: as a walk -/
def dSeq (f : Den) : DenI := fun e S => (f e S).bind fun d S1 => match d with
  | .tup xs => .ok (wkL xs, xs.length) S1
  | .lst xs => .ok (wkL xs, xs.length) S1
  | .fls is => .ok (wkL (is.map .int), is.length) S1
  | .ref n => (match S1[n]? with | some (.lst xs) => .ok (wkR n, xs.length) S1 | _ => .bad)
  | _ => .bad
def intsD (lo : Int) (n : Nat) : List D := (List.range n).map fun (k : Nat) => .int (lo + (k : Int))
theorem intsD_length (lo : Int) (n : Nat) : (intsD lo n).length = n := by simp [intsD]
theorem intsD_get (lo : Int) (n i : Nat) (h : i < n) : (intsD lo n)[i]? = some (.int (lo + (i : Int))) := by simp [intsD, h]
def inR (j : Int) : Bool := decide (-(2 ^ 62) ≤ j) && decide (j < 2 ^ 62)
theorem inR_ok {j : Int} (h : inR j = true) : -(2 ^ 62) ≤ j ∧ j < 2 ^ 62 := by
  unfold inR at h
  rw [Bool.and_eq_true] at h
  exact ⟨of_decide_eq_true h.1, of_decide_eq_true h.2⟩
def dRng1 (f : Den) : DenI := fun e S => (f e S).bind fun d S1 => match d with | .int j => if inR j then .ok (wkL (intsD 0 j.toNat), (intsD 0 j.toNat).length) S1 else .bad | _ => .bad
def dRng2 (f g : Den) : DenI := fun e S => (f e S).bind fun d S1 => (g e S1).bind fun d2 S2 => match d, d2 with | .int i, .int j => if inR i && inR j then .ok (wkL (intsD i (j - i).toNat), (intsD i (j - i).toNat).length) S2 else .bad | _, _ => .bad
/-- enumerate -/
def dEnum (g : DenI) : DenI := fun e S => (g e S).bind fun w S1 => .ok (wkE w.1, w.2) S1
/-- zip of two -/
def dZip (g h : DenI) : DenI := fun e S => (g e S).bind fun w S1 => (h e S1).bind fun v S2 => .ok (wkZ w.1 v.1, min w.2 v.2) S2

/-! ### comprehensions -/
def wipeE (e : Env) : List Nat → Env
  | [] => e
  | v :: vs => (wipeE e vs).set v none
/-- the list lies at n while it grows -/
def lcW (g : Tgt) (t : DenT) (f : Den) (w : Walk) (e0 : Env) (n : Nat) : Nat → Nat → Store → R Unit
  | 0, i, S => match w i S with | some none => .ok () S | _ => .bad
  | k + 1, i, S => match w i S with
    | none => .bad
    | some none => .ok () S
    | some (some x) => (match g x e0 S with
      | none => .bad
      | some e1 => (match t e1 S with
        | .ok true S1 => (match f e1 S1 with
          | .ok d S2 => (match S2[n]? with
            | some (.lst acc) => if acc.length < sizeLine then lcW g t f w e0 n k (i + 1) (S2.set n (.lst (acc ++ [d]))) else .bad
            | _ => .bad)
          | _ => .bad)
        | .ok false S1 => lcW g t f w e0 n k (i + 1) S1
        | _ => .bad))
/-- .. as a list that will be changed -/
def eLcN (vs : List Nat) (gi : DenI) (g : Tgt) (t : DenT) (f : Den) : Den := fun e S => (gi e S).bind fun w S1 => (lcW g t f w.1 (wipeE e vs) S1.length w.2 0 (S1 ++ [.lst []])).bind fun _ S2 => .ok (.ref S1.length) S2
/-- .. as a value -/
noncomputable def eLc (vs : List Nat) (gi : DenI) (g : Tgt) (t : DenT) (f : Den) : Den := fun e S => (gi e S).bind fun w S1 =>
  tidy S1 ((lcW g t f w.1 (wipeE e vs) S1.length w.2 0 (S1 ++ [.lst []])).bind fun _ S2 => .ok (.ref S1.length) S2)
def tYesD : DenT := fun _ S => .ok true S
def whileN (t : DenT) (b : DenS) : Nat → DenS
  | 0 => fun _ _ => .bad
  | n + 1 => fun e S => match t e S with
    | .ok true S1 => (match b e S1 with
      | .next e2 S2 => whileN t b n e2 S2
      | .cont e2 S2 => whileN t b n e2 S2
      | .brk e2 S2 => .next e2 S2
      | .ret d S2 => .ret d S2
      | .err c v e2 S2 => .err c v e2 S2
      | .bad => .bad)
    | .ok false S1 => .next e S1
    | .err c v S1 => .err c v e S1
    | .bad => .bad
open Classical in
noncomputable def sWhile (t : DenT) (b : DenS) : DenS := fun e S => if h : ∃ n, whileN t b n e S ≠ .bad then whileN t b h.choose e S else .bad
theorem whileN_mono {t : DenT} {b : DenS} : ∀ {n : Nat} {e : Env} {S : Store}, whileN t b n e S ≠ .bad → ∀ m, n ≤ m → whileN t b m e S = whileN t b n e S
  | 0, e, S, h, _, _ => absurd rfl h
  | n + 1, e, S, h, 0, hm => absurd hm (Nat.not_succ_le_zero n)
  | n + 1, e, S, h, m + 1, hm => by
    unfold whileN at h ⊢
    cases ht : t e S with
    | bad => rfl
    | err c v S1 => rfl
    | ok c S1 =>
      rw [ht] at h
      cases c with
      | false => rfl
      | true =>
        simp only at h ⊢
        cases hb : b e S1 with
        | next e2 S2 =>
          rw [hb] at h
          exact whileN_mono h m (Nat.le_of_succ_le_succ hm)
        | cont e2 S2 =>
          rw [hb] at h
          exact whileN_mono h m (Nat.le_of_succ_le_succ hm)
        | _ => rfl
theorem sWhile_of {t : DenT} {b : DenS} {n : Nat} {e : Env} {S : Store} (h : whileN t b n e S ≠ .bad) : sWhile t b e S = whileN t b n e S := by
  unfold sWhile
  have hx : ∃ n, whileN t b n e S ≠ .bad := ⟨n, h⟩
  rw [dif_pos hx]
  have hc := hx.choose_spec
  rcases Nat.le_total n hx.choose with l | l
  · exact whileN_mono h _ l
  · exact (whileN_mono hc _ l).symm
theorem sWhile_some {t : DenT} {b : DenS} {e : Env} {S : Store} (h : sWhile t b e S ≠ .bad) : ∃ n, whileN t b n e S = sWhile t b e S := by
  unfold sWhile at h ⊢
  by_cases hx : ∃ n, whileN t b n e S ≠ .bad
  · rw [dif_pos hx]
    exact ⟨_, rfl⟩
  · rw [dif_neg hx] at h
    exact absurd rfl h
/-- one turn -/
theorem sWhile_eq (t : DenT) (b : DenS) (e : Env) (S : Store) : sWhile t b e S = (match t e S with
    | .ok true S1 => (match b e S1 with
      | .next e2 S2 => sWhile t b e2 S2
      | .cont e2 S2 => sWhile t b e2 S2
      | .brk e2 S2 => .next e2 S2
      | .ret d S2 => .ret d S2
      | .err c v e2 S2 => .err c v e2 S2
      | .bad => .bad)
    | .ok false S1 => .next e S1
    | .err c v S1 => .err c v e S1
    | .bad => .bad) := by
  have up : ∀ {e2 : Env} {S2 : Store} {S1 : Store}, t e S = .ok true S1 → (b e S1 = .next e2 S2 ∨ b e S1 = .cont e2 S2) → sWhile t b e S = sWhile t b e2 S2 := by
    intro e2 S2 S1 ht hb
    have one : ∀ n, whileN t b (n + 1) e S = whileN t b n e2 S2 := fun n => by
      rcases hb with hb | hb <;> (conv => lhs; unfold whileN) <;> rw [ht] <;> simp only [hb]
    by_cases hx : ∃ n, whileN t b n e2 S2 ≠ .bad
    · obtain ⟨n, hn⟩ := hx
      rw [sWhile_of hn, sWhile_of (n := n + 1) (by rw [one]; exact hn), one]
    · have h1 : ¬ ∃ n, whileN t b n e S ≠ .bad := fun ⟨n, hn⟩ => by
        cases n with
        | zero => exact hn rfl
        | succ n => exact hx ⟨n, by rw [← one]; exact hn⟩
      unfold sWhile
      rw [dif_neg hx, dif_neg h1]
  have same : ∀ r : RS, whileN t b 1 e S = r → r ≠ .bad → sWhile t b e S = r := fun r h hr => by
    rw [sWhile_of (n := 1) (by rw [h]; exact hr), h]
  have badc : (∀ n, whileN t b n e S = .bad) → sWhile t b e S = .bad := fun h => by
    unfold sWhile
    rw [dif_neg fun ⟨n, hn⟩ => hn (h n)]
  cases ht : t e S with
  | bad => exact badc fun n => by cases n with
    | zero => rfl
    | succ n => unfold whileN; rw [ht]
  | err c v S1 => exact same _ (by unfold whileN; rw [ht]) (by simp)
  | ok c S1 =>
    cases c with
    | false => exact same _ (by unfold whileN; rw [ht]) (by simp)
    | true =>
      simp only
      cases hb : b e S1 with
      | next e2 S2 => exact up ht (.inl hb)
      | cont e2 S2 => exact up ht (.inr hb)
      | brk e2 S2 => exact same _ (by unfold whileN; rw [ht]; simp only [hb]) (by simp)
      | ret d S2 => exact same _ (by unfold whileN; rw [ht]; simp only [hb]) (by simp)
      | err c v e2 S2 => exact same _ (by unfold whileN; rw [ht]; simp only [hb]) (by simp)
      | bad => exact badc fun n => by cases n with
        | zero => rfl
        | succ n => unfold whileN; rw [ht]; simp only [hb]

/-! ### a def -/
def runBody (F : DenS) (n : Nat) (args : List D) (S : Store) : R D :=
  match F (args.map some ++ List.replicate (n - args.length) none) S with
  | .next _ S1 => .ok .non S1
  | .ret d S1 => .ok d S1
  | .err c v _ S1 => .err c v S1
  | _ => .bad
/-- .. that gives no list of its own to be changed -/
noncomputable def runTidy (F : DenS) (n : Nat) (args : List D) (S : Store) : R D := tidy S (runBody F n args S)
end Py

set_option maxHeartbeats 4000000
/-! PyB: how plain data stand for what lies in the heap of the hand layer; the readings of expressions. -/
namespace Py
open PySem PySem.Spec PyProof.Rows L2
abbrev St := L2.St

/-- an exception that was caught: at a, of the class at C, its own dict at d -/
def exk (a C d : Addr) : HO := .ext fun h => ∃ oe vs, h.get? a = some oe ∧ oe.cls = .ref C ∧ oe.dict = some d ∧ oe.data = .fields vs ∧ vs[2]? = some .none
/-- where things stand: the abstract heap, the addresses of the store's objects, the store -/
structure Wd where
  H : Hp
  ρ : Nat → Addr
  S : Store
/-- what may be changed -/
def Wd.M (w : Wd) (a : Addr) : Prop := ∃ n o, w.S[n]? = some o ∧ o ≠ .dead ∧ w.ρ n = a
section
variable (K : PySem.W.Frag) (ca : Nat → Addr)
mutual
inductive Rep : Wd → V → D → Prop where
  | non {w : Wd} : Rep w .non .non
  | bl {w : Wd} (b : Bool) : Rep w (.bl b) (.bl b)
  | int {w : Wd} (i : Int) : Rep w (.int i) (.int i)
  | str {w : Wd} (x : Str) : Rep w (.str x) (.str x)
  | tup {w : Wd} {a : Addr} {vs : List V} {ds : List D} : SqT K w.H a vs → RepL w vs ds → Rep w (.ref a) (.tup ds)
  | lst {w : Wd} {a : Addr} {vs : List V} {ds : List D} : w.H a = some (.lst vs) → ¬ w.M a → RepL w vs ds → Rep w (.ref a) (.lst ds)
  | dct {w : Wd} {a : Addr} {ks : List (Sum Int Str)} {us : List V} {ds : List D} : w.H a = some (.dK (ks.zip us)) → ¬ w.M a → ks.length = us.length → RepL w us ds → Rep w (.ref a) (.dct ks ds)
  | ref {w : Wd} {n : Nat} : n < w.S.length → Rep w (.ref (w.ρ n)) (.ref n)
  | fls {w : Wd} {a : Addr} {is : List Int} : ((∃ o, w.H a = some (.frz o (.lst (is.map V.int)))) ∨ ∃ (o : Obj) (its : Array Value) (n : Nat), K.lookup a = some o ∧ o.cls = .type "list" ∧ o.dict = none ∧ o.data = .seq its n ∧ its.size ≤ sizeLine ∧ Vals (is.map V.int) its.toList) → Rep w (.ref a) (.fls is)
  | exc {w : Wd} {a d : Addr} {c : Nat} {v : V} {x : D} : w.H a = some (exk a (ca c) d) → w.H d = some (.xd [("value", v)]) → ¬ w.M a → ¬ w.M d → Rep w v x → Rep w (.ref a) (.exc c x)
inductive RepL : Wd → List V → List D → Prop where
  | nil {w : Wd} : RepL w [] []
  | cons {w : Wd} {v : V} {d : D} {vs : List V} {ds : List D} : Rep w v d → RepL w vs ds → RepL w (v :: vs) (d :: ds)
end
/-- an object of the store is as the heap has it -/
def ORep (w : Wd) (h : Option HO) : O → Prop
  | .dead => True
  | .lst xs => ∃ vs, h = some (.lst vs) ∧ RepL K ca w vs xs
  | .dct ks ds => ∃ us, h = some (.dK (ks.zip us)) ∧ ks.length = us.length ∧ RepL K ca w us ds
/-- the store's objects are as the heap has them -/
structure SOk (w : Wd) : Prop where
  liv : ∀ n o, w.S[n]? = some o → ORep K ca w (w.H (w.ρ n)) o
  inj' : ∀ n m o o', w.S[n]? = some o → w.S[m]? = some o' → o ≠ .dead → o' ≠ .dead → w.ρ n = w.ρ m → n = m
end
/-- later -/
structure Ext (w w' : Wd) : Prop where
  keep : ∀ a o, w.H a = some o → ¬ w.M a → w'.H a = some o
  fresh : ∀ a, w'.M a → w.M a ∨ w.H a = none
  rho : ∀ n, n < w.S.length → w'.ρ n = w.ρ n
  len : w.S.length ≤ w'.S.length
theorem Ext.refl (w : Wd) : Ext w w := ⟨fun _ _ h _ => h, fun _ h => .inl h, fun _ _ => rfl, Nat.le_refl _⟩
theorem Ext.notM {w w' : Wd} (e : Ext w w') {a : Addr} {o : HO} (h : w.H a = some o) (n : ¬ w.M a) : ¬ w'.M a := fun m => by
  rcases e.fresh a m with z | z
  · exact n z
  · rw [h] at z; cases z
theorem Ext.trans {w w1 w2 : Wd} (a : Ext w w1) (b : Ext w1 w2) : Ext w w2 where
  keep := fun c o h n => b.keep c o (a.keep c o h n) (a.notM h n)
  fresh := fun c m => by
    by_cases hm : w.M c
    · exact .inl hm
    · cases q : w.H c with
      | none => exact .inr rfl
      | some o => exact absurd m (b.notM (a.keep c o q hm) (a.notM q hm))
  rho := fun n h => (b.rho n (Nat.lt_of_lt_of_le h a.len)).trans (a.rho n h)
  len := Nat.le_trans a.len b.len
section
variable {K : PySem.W.Frag} {ca : Nat → Addr} {w w' : Wd}
theorem SOk.live (s : SOk K ca w) (n : Nat) (xs : List D) (h : w.S[n]? = some (.lst xs)) : ∃ vs, w.H (w.ρ n) = some (.lst vs) ∧ RepL K ca w vs xs := s.liv n _ h
theorem SOk.inj (s : SOk K ca w) (n m : Nat) (xs ys : List D) (h : w.S[n]? = some (.lst xs)) (h2 : w.S[m]? = some (.lst ys)) (e : w.ρ n = w.ρ m) : n = m := s.inj' n m _ _ h h2 (fun z => by cases z) (fun z => by cases z) e
theorem ORep.some {h : Option HO} : ∀ {o : O}, ORep K ca w h o → o ≠ .dead → (∃ vs, h = some (.lst vs)) ∨ ∃ kvs, h = some (.dK kvs)
  | .dead, _, n => absurd rfl n
  | .lst _, ⟨vs, q, _⟩, _ => .inl ⟨vs, q⟩
  | .dct _ _, ⟨_, q, _⟩, _ => .inr ⟨_, q⟩
theorem SOk.lstM (s : SOk K ca w) {a : Addr} (m : w.M a) : (∃ vs, w.H a = some (.lst vs)) ∨ ∃ kvs, w.H a = some (.dK kvs) := by
  obtain ⟨n, o, h, nd, e⟩ := m
  have := (s.liv n o h).some nd
  rw [e] at this
  exact this
theorem SOk.notM (s : SOk K ca w) {a : Addr} {o : HO} (h : w.H a = some o) (n : ∀ vs, o ≠ .lst vs) (n2 : ∀ kvs, o ≠ .dK kvs := by intro _ z; cases z) : ¬ w.M a := fun m => by
  rcases s.lstM m with ⟨vs, q⟩ | ⟨vs, q⟩
  · rw [h] at q; cases q
    exact n vs rfl
  · rw [h] at q; cases q
    exact n2 vs rfl
theorem SOk.notM0 (s : SOk K ca w) {a : Addr} (h : w.H a = none) : ¬ w.M a := fun m => by
  rcases s.lstM m with ⟨vs, q⟩ | ⟨vs, q⟩ <;> (rw [h] at q; cases q)
theorem Ext.sqT (e : Ext w w') (s : SOk K ca w) {a : Addr} {vs : List V} (h : SqT K w.H a vs) : SqT K w'.H a vs := by
  rcases h with (h | ⟨o, h⟩) | h
  · exact .inl (.inl (e.keep _ _ h (s.notM h fun _ z => by cases z)))
  · exact .inl (.inr ⟨o, e.keep _ _ h (s.notM h fun _ z => by cases z)⟩)
  · exact .inr h
mutual
theorem Rep.mono (e : Ext w w') (s : SOk K ca w) : ∀ {v : V} {d : D}, Rep K ca w v d → Rep K ca w' v d
  | _, _, .non => .non
  | _, _, .bl b => .bl b
  | _, _, .int i => .int i
  | _, _, .str x => .str x
  | _, _, .tup h r => .tup (e.sqT s h) (RepL.mono e s r)
  | _, _, .lst h n r => .lst (e.keep _ _ h n) (e.notM h n) (RepL.mono e s r)
  | _, _, .ref (n := n) h => by
    have q : Rep K ca w' (.ref (w'.ρ n)) (.ref n) := .ref (Nat.lt_of_lt_of_le h e.len)
    rw [e.rho n h] at q
    exact q
  | _, _, .dct h n l r => .dct (e.keep _ _ h n) (e.notM h n) l (RepL.mono e s r)
  | _, _, .fls h => .fls (h.elim (fun ⟨o, q⟩ => .inl ⟨o, e.keep _ _ q (s.notM q fun _ z => by cases z)⟩) .inr)
  | _, _, .exc h1 h2 n1 n2 r => .exc (e.keep _ _ h1 n1) (e.keep _ _ h2 n2) (e.notM h1 n1) (e.notM h2 n2) (Rep.mono e s r)
theorem RepL.mono (e : Ext w w') (s : SOk K ca w) : ∀ {vs : List V} {ds : List D}, RepL K ca w vs ds → RepL K ca w' vs ds
  | _, _, .nil => .nil
  | _, _, .cons r t => .cons (Rep.mono e s r) (RepL.mono e s t)
end
theorem ORep.mono (e : Ext w w') (s : SOk K ca w) {h : Option HO} : ∀ {o : O}, ORep K ca w h o → ORep K ca w' h o
  | .dead, _ => trivial
  | .lst _, ⟨vs, q, r⟩ => ⟨vs, q, RepL.mono e s r⟩
  | .dct _ _, ⟨us, q, l, r⟩ => ⟨us, q, l, RepL.mono e s r⟩
theorem ORep.ne {h : Option HO} {o : O} (r : ORep K ca w h o) (nd : o ≠ .dead) : h ≠ none := fun z => by
  subst z
  rcases r.some nd with ⟨vs, q⟩ | ⟨vs, q⟩ <;> cases q
theorem RepL.length : ∀ {vs : List V} {ds : List D}, RepL K ca w vs ds → vs.length = ds.length
  | _, _, .nil => rfl
  | _, _, .cons _ t => congrArg (· + 1) t.length
theorem RepL.get : ∀ {vs : List V} {ds : List D} {i : Nat} {d : D}, RepL K ca w vs ds → ds[i]? = some d → ∃ v, vs[i]? = some v ∧ Rep K ca w v d
  | _, _, _, _, .nil, h => by cases h
  | _, _, 0, _, .cons r _, h => by
    have e := Option.some.inj h
    subst e
    exact ⟨_, rfl, r⟩
  | _, _, i + 1, _, .cons _ t, h => RepL.get (i := i) t h
theorem RepL.getV : ∀ {vs : List V} {ds : List D} {i : Nat} {v : V}, RepL K ca w vs ds → vs[i]? = some v → ∃ d, ds[i]? = some d ∧ Rep K ca w v d
  | _, _, _, _, .nil, h => by cases h
  | _, _, 0, _, .cons r _, h => by
    have e := Option.some.inj h
    subst e
    exact ⟨_, rfl, r⟩
  | _, _, i + 1, _, .cons _ t, h => RepL.getV (i := i) t h
theorem RepL.append : ∀ {vs us : List V} {ds es : List D}, RepL K ca w vs ds → RepL K ca w us es → RepL K ca w (vs ++ us) (ds ++ es)
  | _, _, _, _, .nil, s => s
  | _, _, _, _, .cons r t, s => .cons r (RepL.append t s)
theorem RepL.take : ∀ {vs : List V} {ds : List D} (n : Nat), RepL K ca w vs ds → RepL K ca w (vs.take n) (ds.take n)
  | _, _, 0, _ => .nil
  | _, _, _ + 1, .nil => .nil
  | _, _, n + 1, .cons r t => .cons r (RepL.take n t)
theorem RepL.drop : ∀ {vs : List V} {ds : List D} (n : Nat), RepL K ca w vs ds → RepL K ca w (vs.drop n) (ds.drop n)
  | _, _, 0, r => r
  | _, _, _ + 1, .nil => .nil
  | _, _, n + 1, .cons _ t => RepL.drop n t
theorem RepL.set : ∀ {vs : List V} {ds : List D} {v : V} {d : D} (i : Nat), RepL K ca w vs ds → Rep K ca w v d → RepL K ca w (vs.set i v) (ds.set i d)
  | _, _, _, _, _, .nil, _ => .nil
  | _, _, _, _, 0, .cons _ t, q => .cons q t
  | _, _, _, _, i + 1, .cons r t, q => .cons r (RepL.set i t q)
theorem RepL.one {v : V} {ds : List D} (h : RepL K ca w [v] ds) : ∃ d, ds = [d] ∧ Rep K ca w v d := by
  cases h with
  | cons r t => cases t; exact ⟨_, rfl, r⟩
theorem RepL.of1 {vs : List V} {d : D} (h : RepL K ca w vs [d]) : ∃ v, vs = [v] ∧ Rep K ca w v d := by
  cases h with
  | cons r t => cases t; exact ⟨_, rfl, r⟩
theorem RepL.of2 {vs : List V} {d e : D} (h : RepL K ca w vs [d, e]) : ∃ v u, vs = [v, u] ∧ Rep K ca w v d ∧ Rep K ca w u e := by
  cases h with
  | cons r t =>
    obtain ⟨u, rfl, q⟩ := t.of1
    exact ⟨_, _, rfl, r, q⟩
end

/-- how a reading ends -/
def Sat {α : Type} (r : R α) (Q : α → Store → Prop) (E : Nat → D → Store → Prop) : Prop := match r with
  | .ok a S => Q a S | .err c v S => E c v S | .bad => False
theorem Sat.bind {α β : Type} {r : R α} {f : α → Store → R β} {Q : β → Store → Prop} {E : Nat → D → Store → Prop} (h : Sat (r.bind f) Q E) : Sat r (fun a S => Sat (f a S) Q E) E := by
  cases r <;> exact h
theorem Sat.mono {α : Type} {r : R α} {Q Q' : α → Store → Prop} {E E' : Nat → D → Store → Prop} (h : Sat r Q E) (hq : ∀ a S, Q a S → Q' a S) (he : ∀ c v S, E c v S → E' c v S) : Sat r Q' E' := by
  cases r with
  | ok a S => exact hq a S h
  | err c v S => exact he c v S h
  | bad => exact h

section
variable (K : PySem.W.Frag) (ca : Nat → Addr)
/-- whatever comes behind w with the store S -/
def Aft (w : Wd) (S : Store) (P : Wd → Prop) : Prop := ∀ w' : Wd, w'.S = S → Ext w w' → SOk K ca w' → P w'
/-- an exception of the class number c that holds x -/
def ExIn (w : Wd) (cls : Value) (dd : Option Addr) (c : Nat) (x : D) : Prop := cls = .ref (ca c) ∧ ∃ d v, dd = some d ∧ w.H d = some (.xd [("value", v)]) ∧ ¬ w.M d ∧ Rep K ca w v x
/-- the slots -/
def Sim (w : Wd) (env : Env) (σ : St) : Prop := env.length = σ.length ∧ ∀ (i : Nat) (d : D), env[i]? = some (some d) → ∃ v : V, σ[i]? = some (some v) ∧ Rep K ca w v d
def QV (w : Wd) (Q : VK) : D → Store → Prop := fun d S => Aft K ca w S fun w' => ∀ v, Rep K ca w' v d → Q v w'.H
def QL (w : Wd) (Q : List V → Hp → Prop) : List D → Store → Prop := fun ds S => Aft K ca w S fun w' => ∀ vs, RepL K ca w' vs ds → Q vs w'.H
def QB (w : Wd) (Q : Bool → Hp → Prop) : Bool → Store → Prop := fun b S => Aft K ca w S fun w' => Q b w'.H
def QE (w : Wd) (W : WX) (σ : St) : Nat → D → Store → Prop := fun c x S => Aft K ca w S fun w' => ∀ cls dd, ExIn K ca w' cls dd c x → W cls dd σ w'.H
def tE (W : WX) (f : Den) : TE := fun σ H Q => ∃ w env, w.H = H ∧ SOk K ca w ∧ Sim K ca w env σ ∧ Sat (f env w.S) (QV K ca w Q) (QE K ca w W σ)
def tEs (W : WX) (f : Dens) : TA := fun σ H Q => ∃ w env, w.H = H ∧ SOk K ca w ∧ Sim K ca w env σ ∧ Sat (f env w.S) (QL K ca w Q) (QE K ca w W σ)
def tT (W : WX) (f : DenT) : TT := fun σ H Q => ∃ w env, w.H = H ∧ SOk K ca w ∧ Sim K ca w env σ ∧ Sat (f env w.S) (QB K ca w Q) (QE K ca w W σ)
/-- a new list at any free place -/
def QF (w : Wd) (Q : VK) : List D → Store → Prop := fun ds S => Aft K ca w S fun w' => ∀ vs p, RepL K ca w' vs ds → w'.H p = none → Q (.ref p) (upd w'.H p (.lst vs))
def tF (W : WX) (f : Dens) : TE := fun σ H Q => ∃ w env, w.H = H ∧ SOk K ca w ∧ Sim K ca w env σ ∧ Sat (f env w.S) (QF K ca w Q) (QE K ca w W σ)
end
section
variable {K : PySem.W.Frag} {ca : Nat → Addr} {w w' : Wd} {S : Store} {P P' : Wd → Prop}
theorem Aft.here (h : Aft K ca w w'.S P) (e : Ext w w') (s : SOk K ca w') : P w' := h w' rfl e s
theorem Aft.later (h : Aft K ca w S P) (e : Ext w w') : Aft K ca w' S P := fun w2 hs e2 s2 => h w2 hs (e.trans e2) s2
theorem Aft.mono (h : Aft K ca w S P) (f : ∀ w', Ext w w' → SOk K ca w' → P w' → P' w') : Aft K ca w S P' := fun w2 hs e2 s2 => f w2 e2 s2 (h w2 hs e2 s2)
theorem Sim.mono {env : Env} {σ : St} (e : Ext w w') (s : SOk K ca w) (h : Sim K ca w env σ) : Sim K ca w' env σ :=
  ⟨h.1, fun i d q => let ⟨v, a, r⟩ := h.2 i d q; ⟨v, a, r.mono e s⟩⟩
theorem Sim.set {env : Env} {σ : St} {v : V} {d : D} (h : Sim K ca w env σ) (i : Nat) (r : Rep K ca w v d) : Sim K ca w (env.set i (some d)) (σ.set i (some v)) := by
  refine ⟨by simp [h.1], fun j x q => ?_⟩
  by_cases hj : i = j
  · subst hj
    by_cases hl : i < env.length
    · rw [List.getElem?_set_self hl] at q
      cases q
      exact ⟨v, by rw [List.getElem?_set_self (by rw [← h.1]; exact hl)], r⟩
    · rw [List.getElem?_eq_none (by simpa using hl)] at q
      cases q
  · rw [List.getElem?_set_ne hj] at q
    obtain ⟨u, a, b⟩ := h.2 j x q
    exact ⟨u, by rw [List.getElem?_set_ne hj]; exact a, b⟩
theorem satLater {α : Type} {r : R α} {Q : Wd → α → Store → Prop} {E : Wd → Nat → D → Store → Prop} (h : Sat r (Q w) (E w)) (hq : ∀ a S, Q w a S → Q w' a S) (he : ∀ c v S, E w c v S → E w' c v S) : Sat r (Q w') (E w') := h.mono hq he
theorem QV.later {Q : VK} {d : D} (e : Ext w w') (h : QV K ca w Q d S) : QV K ca w' Q d S := Aft.later h e
theorem QE.later {W : WX} {σ : St} {c : Nat} {x : D} (e : Ext w w') (h : QE K ca w W σ c x S) : QE K ca w' W σ c x S := Aft.later h e
theorem QL.later {Q : List V → Hp → Prop} {d : List D} (e : Ext w w') (h : QL K ca w Q d S) : QL K ca w' Q d S := Aft.later h e
theorem QB.later {Q : Bool → Hp → Prop} {b : Bool} (e : Ext w w') (h : QB K ca w Q b S) : QB K ca w' Q b S := Aft.later h e
theorem QF.later {Q : VK} {d : List D} (e : Ext w w') (h : QF K ca w Q d S) : QF K ca w' Q d S := Aft.later h e
end

/-! ### a weaker reading -/
theorem PE.imp {X : Cx} {e : Expr} {t t' : TE} (h : PE X e t) (f : ∀ σ H Q, t' σ H Q → t σ H Q) : PE X e t' := ⟨fun pins s σ H Q I q => h.run pins s σ H Q I (f σ H Q q)⟩
theorem PA.imp {X : Cx} {e : List Expr} {t t' : TA} (h : PA X e t) (f : ∀ σ H Q, t' σ H Q → t σ H Q) : PA X e t' := ⟨fun pos pins s σ H Q I q => h.run pos pins s σ H Q I (f σ H Q q)⟩
theorem PT.imp {X : Cx} {e : Expr} {t t' : TT} (h : PT X e t) (f : ∀ σ H Q, t' σ H Q → t σ H Q) : PT X e t' := ⟨fun pins s σ H Q I q => h.run pins s σ H Q I (f σ H Q q)⟩
theorem PW.imp {X : Cx} {e : Expr} {t t' : TT} (h : PW X e t) (f : ∀ σ H Q, t' σ H Q → t σ H Q) : PW X e t' := ⟨fun wh pins s σ H Q I q => h.run wh pins s σ H Q I (f σ H Q q)⟩
theorem PS.imp {X : Cx} {e : Stmt} {t t' : TS} (h : PS X e t) (f : ∀ D σ H, t' D σ H → t D σ H) : PS X e t' := ⟨fun pins s σ H D I q => h.run pins s σ H D I (f D σ H q)⟩
theorem PSs.imp {X : Cx} {e : List Stmt} {t t' : TS} (h : PSs X e t) (f : ∀ D σ H, t' D σ H → t D σ H) : PSs X e t' := ⟨fun pins s σ H D I q => h.run pins s σ H D I (f D σ H q)⟩

/-! ### expressions -/
section
variable {X : Cx} {ca : Nat → Addr} {W : WX} {pos : Pos} {f g : Den} {gs hs : Dens} {a b : Expr} {es : List Expr}

/-- one, then the other -/
theorem tE_bind {σ : St} {H : Hp} {β : Type} {k : D → Store → R β} {w : Wd} {env : Env} {Qb : Wd → β → Store → Prop} {R : V → Hp → Prop}
    (e : w.H = H) (s : SOk X.K ca w) (m : Sim X.K ca w env σ) (h : Sat ((f env w.S).bind k) (Qb w) (QE X.K ca w W σ))
    (hl : ∀ {w' : Wd} {b : β} {S : Store}, Ext w w' → Qb w b S → Qb w' b S)
    (hr : ∀ w1 d v, SOk X.K ca w1 → Sim X.K ca w1 env σ → Rep X.K ca w1 v d → Ext w w1 → Sat (k d w1.S) (Qb w1) (QE X.K ca w1 W σ) → R v w1.H) :
    tE X.K ca W f σ H R := by
  refine ⟨w, env, e, s, m, (Sat.bind h).mono (fun d S1 q => ?_) fun c v S q => q⟩
  intro w1 hS e1 s1 v r
  subst hS
  exact hr w1 d v s1 (m.mono e1 s) r e1 (q.mono (fun b S z => hl e1 z) fun c v S z => QE.later e1 z)
theorem tEs_bind {σ : St} {H : Hp} {β : Type} {k : List D → Store → R β} {w : Wd} {env : Env} {Qb : Wd → β → Store → Prop} {R : List V → Hp → Prop}
    (e : w.H = H) (s : SOk X.K ca w) (m : Sim X.K ca w env σ) (h : Sat ((gs env w.S).bind k) (Qb w) (QE X.K ca w W σ))
    (hl : ∀ {w' : Wd} {b : β} {S : Store}, Ext w w' → Qb w b S → Qb w' b S)
    (hr : ∀ w1 d v, SOk X.K ca w1 → Sim X.K ca w1 env σ → RepL X.K ca w1 v d → Ext w w1 → Sat (k d w1.S) (Qb w1) (QE X.K ca w1 W σ) → R v w1.H) :
    tEs X.K ca W gs σ H R := by
  refine ⟨w, env, e, s, m, (Sat.bind h).mono (fun d S1 q => ?_) fun c v S q => q⟩
  intro w1 hS e1 s1 v r
  subst hS
  exact hr w1 d v s1 (m.mono e1 s) r e1 (q.mono (fun b S z => hl e1 z) fun c v S z => QE.later e1 z)
theorem tT_bind {t : DenT} {σ : St} {H : Hp} {β : Type} {k : Bool → Store → R β} {w : Wd} {env : Env} {Qb : Wd → β → Store → Prop} {R : Bool → Hp → Prop}
    (e : w.H = H) (s : SOk X.K ca w) (m : Sim X.K ca w env σ) (h : Sat ((t env w.S).bind k) (Qb w) (QE X.K ca w W σ))
    (hl : ∀ {w' : Wd} {b : β} {S : Store}, Ext w w' → Qb w b S → Qb w' b S)
    (hr : ∀ w1 b, SOk X.K ca w1 → Sim X.K ca w1 env σ → Ext w w1 → Sat (k b w1.S) (Qb w1) (QE X.K ca w1 W σ) → R b w1.H) :
    tT X.K ca W t σ H R := by
  refine ⟨w, env, e, s, m, (Sat.bind h).mono (fun d S1 q => ?_) fun c v S q => q⟩
  intro w1 hS e1 s1
  subst hS
  exact hr w1 d s1 (m.mono e1 s) e1 (q.mono (fun b S z => hl e1 z) fun c v S z => QE.later e1 z)

theorem e_var {i : Nat} {x : Str} (hN : X.N[i]? = some x) (hv : Vis X.env.scope x) (hd : (x == ("__debug__" : Str)) = false := by decide) (hcd : (x == ("__classdict__" : Str)) = false := by decide) : PE X (.Name x pos) ((tE X.K ca W) (eVar i)) := by
  refine PE.imp (pe_var hN hv hd hcd) fun σ H Q ⟨w, env, e, s, m, h⟩ => ?_
  subst e
  unfold eVar at h
  cases q : env[i]? with
  | none => rw [q] at h; exact h.elim
  | some o =>
    cases o with
    | none => rw [q] at h; exact h.elim
    | some d =>
      rw [q] at h
      obtain ⟨v, hv, r⟩ := m.2 i d q
      exact ⟨v, hv, Aft.here (w' := w) h (.refl w) s v r⟩
/-- a constant -/
theorem e_c {v : V} {d : D} (he : PE X a (tC v)) (r : ∀ w : Wd, SOk X.K ca w → Rep X.K ca w v d) : PE X a ((tE X.K ca W) (eC d)) :=
  PE.imp he fun σ H Q ⟨w, env, e, s, m, h⟩ => by
    subst e
    exact Aft.here (w' := w) h (.refl w) s v (r w s)
theorem e_int {i : Int} {j} : PE X (.Constant (.int i) j pos) ((tE X.K ca W) (eC (.int i))) := e_c pe_int fun _ _ => .int i
theorem e_bl {b : Bool} {j} : PE X (.Constant (.bool b) j pos) ((tE X.K ca W) (eC (.bl b))) := e_c pe_bl fun _ _ => .bl b
theorem e_non {j} : PE X (.Constant .none j pos) ((tE X.K ca W) (eC .non)) := e_c pe_non fun _ _ => .non
theorem e_str {x : Str} {j} : PE X (.Constant (.str x) j pos) ((tE X.K ca W) (eC (.str x))) := e_c pe_str fun _ _ => .str x

/-- an operation on values -/
def rO2 (K : PySem.W.Frag) (ca : Nat → Addr) (o : Op2) : R2 := fun x y H Q => ∃ w dx dy, w.H = H ∧ SOk K ca w ∧ Rep K ca w x dx ∧ Rep K ca w y dy ∧ Sat (o dx dy w.S) (QV K ca w Q) fun _ _ _ => False
def rO1 (K : PySem.W.Frag) (ca : Nat → Addr) (o : Op1) : V → Hp → VK → Prop := fun x H Q => ∃ w dx, w.H = H ∧ SOk K ca w ∧ Rep K ca w x dx ∧ Sat (o dx w.S) (QV K ca w Q) fun _ _ _ => False
def rON (K : PySem.W.Frag) (ca : Nat → Addr) (o : OpN) : List V → Hp → VK → Prop := fun xs H Q => ∃ w ds, w.H = H ∧ SOk K ca w ∧ RepL K ca w xs ds ∧ Sat (o ds w.S) (QV K ca w Q) fun _ _ _ => False
/-- it never raises -/
def Mute2 (o : Op2) : Prop := ∀ a b S c v S', o a b S ≠ .err c v S'
def Mute1 (o : Op1) : Prop := ∀ a S c v S', o a S ≠ .err c v S'
def MuteN (o : OpN) : Prop := ∀ a S c v S', o a S ≠ .err c v S'
theorem Sat.noErr {α : Type} {r : R α} {Q : α → Store → Prop} {E E' : Nat → D → Store → Prop} (h : Sat r Q E) (n : ∀ c v S, r ≠ .err c v S) : Sat r Q E' := by
  cases r with
  | ok a S => exact h
  | err c v S => exact absurd rfl (n c v S)
  | bad => exact h
theorem bin_imp {o : Op2} (n : Mute2 o) {σ : St} {H : Hp} {Q : VK} (h : (tE X.K ca W) (eBin o f g) σ H Q) : tOp (rO2 X.K ca o) ((tE X.K ca W) f) ((tE X.K ca W) g) σ H Q := by
  obtain ⟨w, env, e, s, m, h⟩ := h
  refine tE_bind (Qb := fun w => QV X.K ca w Q) e s m h (fun e q => QV.later e q) fun w1 d v s1 m1 r e1 h1 => ?_
  refine tE_bind (Qb := fun w => QV X.K ca w Q) rfl s1 m1 h1 (fun e q => QV.later e q) fun w2 d2 v2 s2 m2 r2 e2 h2 => ?_
  exact ⟨w2, d, d2, rfl, s2, r.mono e2 s1, r2, h2.noErr (n _ _ _)⟩
theorem e_bin {op : Operator} {o : Op2} (ho : OpR X (binaryOp op) (rO2 X.K ca o)) (n : Mute2 o) (ha : PE X a ((tE X.K ca W) f)) (hb : PE X b ((tE X.K ca W) g)) : PE X (.BinOp a op b pos) ((tE X.K ca W) (eBin o f g)) :=
  PE.imp (pe_op ho ha hb) fun _ _ _ h => bin_imp n h
theorem e_cmp {op : CmpOp} {o : Op2} (ho : OpR X (compareOp op) (rO2 X.K ca o)) (n : Mute2 o) (ha : PE X a ((tE X.K ca W) f)) (hb : PE X b ((tE X.K ca W) g)) (hm : behindInMarks op b = false) : PE X (.Compare a [op] [b] pos) ((tE X.K ca W) (eBin o f g)) :=
  PE.imp (pe_cmpR ho ha hb hm) fun _ _ _ h => bin_imp n h
theorem un_imp {o : Op1} (n : Mute1 o) {σ : St} {H : Hp} {Q : VK} (h : (tE X.K ca W) (eUn o f) σ H Q) : tUn (rO1 X.K ca o) ((tE X.K ca W) f) σ H Q := by
  obtain ⟨w, env, e, s, m, h⟩ := h
  refine tE_bind (Qb := fun w => QV X.K ca w Q) e s m h (fun e q => QV.later e q) fun w1 d v s1 m1 r e1 h1 => ?_
  exact ⟨w1, d, rfl, s1, r, h1.noErr (n _ _)⟩
theorem e_un {op : UnaryOp} {o : Op1} (ho : UnR X (unaryOp op) (rO1 X.K ca o)) (n : Mute1 o) (ha : PE X a ((tE X.K ca W) f)) : PE X (.UnaryOp op a pos) ((tE X.K ca W) (eUn o f)) :=
  PE.imp (pe_un ho ha) fun _ _ _ h => un_imp n h
/-- rows of values -/
theorem d_nil : PA X [] ((tEs X.K ca W) dNil) := PA.imp pa_nil fun σ H Q ⟨w, env, e, s, m, h⟩ => by
  subst e
  exact Aft.here (w' := w) h (.refl w) s [] .nil
theorem d_cons (ha : PE X a ((tE X.K ca W) f)) (hb : PA X es ((tEs X.K ca W) gs)) (hst : starEach (a :: es) X.env = (false, eval a X.env) :: starEach es X.env := by rfl) : PA X (a :: es) ((tEs X.K ca W) (dCons f gs)) :=
  PA.imp (pa_cons ha hb hst) fun σ H Q ⟨w, env, e, s, m, h⟩ => by
    refine tE_bind (Qb := fun w => QL X.K ca w Q) e s m h (fun e q => QL.later e q) fun w1 d v s1 m1 r e1 h1 => ?_
    refine tEs_bind (Qb := fun w => QL X.K ca w Q) rfl s1 m1 h1 (fun e q => QL.later e q) fun w2 d2 v2 s2 m2 r2 e2 h2 => ?_
    exact Aft.here (w' := w2) h2 (.refl w2) s2 _ (.cons (r.mono e2 s1) r2)
theorem d_len_nil {e : Env} {S S' : Store} {ds : List D} (h : dNil e S = .ok ds S') : ds.length = 0 := by
  cases h; rfl
/-- all that it gives has this length -/
def Len (g : Dens) (n : Nat) : Prop := ∀ e S ds S', g e S = .ok ds S' → ds.length = n
theorem len_nil : Len dNil 0 := fun _ _ _ _ h => by cases h; rfl
theorem len_cons {n : Nat} (h : Len gs n) : Len (dCons f gs) (n + 1) := fun e S ds S' q => by
  unfold dCons at q
  cases h1 : f e S with
  | ok d S1 =>
    rw [h1] at q
    simp only [R.bind] at q
    cases h2 : gs e S1 with
    | ok ds2 S2 =>
      rw [h2] at q
      simp only [R.bind] at q
      cases q
      rw [List.length_cons, h e S1 _ _ h2]
    | err c v S2 => rw [h2] at q; cases q
    | bad => rw [h2] at q; cases q
  | err c v S1 => rw [h1] at q; cases q
  | bad => rw [h1] at q; cases q
theorem Ext.alloc {w : Wd} {p : Addr} {o : HO} (h : w.H p = none) : Ext w ⟨upd w.H p o, w.ρ, w.S⟩ where
  keep := fun a u q _ => by
    show upd w.H p o a = some u
    rw [upd_ne (ne_of_none q h)]; exact q
  fresh := fun a m => .inl m
  rho := fun _ _ => rfl
  len := Nat.le_refl _
theorem SOk.alloc {w : Wd} {p : Addr} {o : HO} (s : SOk X.K ca w) (h : w.H p = none) : SOk X.K ca ⟨upd w.H p o, w.ρ, w.S⟩ where
  liv := fun n o' q => by
    have r := (s.liv n o' q).mono (w' := ⟨upd w.H p o, w.ρ, w.S⟩) (.alloc h) s
    by_cases nd : o' = .dead
    · subst nd; exact trivial
    · have ne : w.ρ n ≠ p := fun z => r.ne nd (by rw [z]; exact h)
      show ORep X.K ca _ (upd w.H p o (w.ρ n)) o'
      rw [upd_ne ne]; exact r
  inj' := s.inj'
theorem tup_imp {σ : St} {H : Hp} {Q : VK} {n : Nat} (hl : Len gs n) (hn : n ≤ sizeLine) (h : (tE X.K ca W) (eTup gs) σ H Q) : tTup ((tEs X.K ca W) gs) σ H Q := by
  obtain ⟨w, env, e, s, m, h⟩ := h
  have hlen : ∀ ds S', gs env w.S = .ok ds S' → ds.length = n := fun ds S' q => hl _ _ _ _ q
  refine ⟨w, env, e, s, m, ?_⟩
  unfold eTup at h
  cases q : gs env w.S with
  | bad => rw [q] at h; exact h
  | err c v S1 => rw [q] at h; exact h
  | ok ds S1 =>
    rw [q] at h
    intro w1 hS e1 s1 vs r
    subst hS
    refine ⟨by rw [r.length, hlen _ _ q]; exact hn, fun p hp => ?_⟩
    have x := Ext.alloc (w := w1) (o := .tup vs) hp
    exact h ⟨upd w1.H p (.tup vs), w1.ρ, w1.S⟩ rfl (e1.trans x) (s1.alloc hp) (.ref p) (.tup (.inl (.inl upd_same)) (r.mono x s1))
theorem e_tup {x1} {n : Nat} (ha : PA X es ((tEs X.K ca W) gs)) (hl : Len gs n) (hn : n ≤ sizeLine := by decide) : PE X (.Tuple es x1 pos) ((tE X.K ca W) (eTup gs)) :=
  PE.imp (pe_tup ha) fun _ _ _ h => tup_imp hl hn h

/-! ### a fresh list: kept as data, or laid into the store -/
theorem f_val (ha : PE X a ((tF X.K ca W) gs)) : PE X a ((tE X.K ca W) (eLst gs)) := PE.imp ha fun σ H Q ⟨w, env, e, s, m, h⟩ => by
  refine ⟨w, env, e, s, m, (Sat.bind h).mono (fun ds S1 q => ?_) fun _ _ _ q => q⟩
  intro w1 hS e1 s1 vs p r hp
  subst hS
  have x := Ext.alloc (w := w1) (o := .lst vs) hp
  refine q ⟨upd w1.H p (.lst vs), w1.ρ, w1.S⟩ rfl (e1.trans x) (s1.alloc hp) (.ref p) (.lst upd_same ?_ (r.mono x s1))
  exact fun m => s1.notM0 hp m
theorem new_extO {w : Wd} {p : Addr} {u : HO} {o : O} (s : SOk X.K ca w) (h : w.H p = none) (r : ORep X.K ca w (some u) o) :
    let w' : Wd := ⟨upd w.H p u, fun n => if n = w.S.length then p else w.ρ n, w.S ++ [o]⟩
    Ext w w' ∧ SOk X.K ca w' := by
  intro w'
  have at' : ∀ n o', w'.S[n]? = some o' → (n < w.S.length ∧ w.S[n]? = some o' ∧ w'.ρ n = w.ρ n) ∨ (n = w.S.length ∧ o' = o ∧ w'.ρ n = p) := fun n o' q => by
    have q' : (w.S ++ [o])[n]? = some o' := q
    by_cases hlt : n < w.S.length
    · rw [List.getElem?_append_left hlt] at q'
      exact .inl ⟨hlt, q', if_neg (Nat.ne_of_lt hlt)⟩
    · rw [List.getElem?_append_right (Nat.le_of_not_lt hlt)] at q'
      by_cases hz : n - w.S.length = 0
      · rw [hz] at q'
        exact .inr ⟨by omega, (Option.some.inj q').symm, if_pos (by omega)⟩
      · obtain ⟨k, hk⟩ := Nat.exists_eq_succ_of_ne_zero hz
        rw [hk] at q'; cases q'
  have x : Ext w w' := {
    keep := fun a o' q _ => by
      show upd w.H p u a = some o'
      rw [upd_ne (ne_of_none q h)]; exact q
    fresh := fun a ⟨n, o', q, nd, e⟩ => by
      rcases at' n o' q with ⟨_, g, e2⟩ | ⟨_, _, e2⟩
      · exact .inl ⟨n, o', g, nd, e2.symm.trans e⟩
      · exact .inr (by rw [← e, e2]; exact h)
    rho := fun n hn => if_neg (Nat.ne_of_lt hn)
    len := by show w.S.length ≤ (w.S ++ [o]).length; rw [List.length_append]; omega }
  have np : ∀ n o', w.S[n]? = some o' → o' ≠ .dead → w.ρ n ≠ p := fun n o' g nd z => (s.liv n o' g).ne nd (by rw [z]; exact h)
  refine ⟨x, ?_, ?_⟩
  · intro n o' q
    rcases at' n o' q with ⟨_, g, e⟩ | ⟨_, e1, e⟩
    · by_cases nd : o' = .dead
      · subst nd; exact trivial
      · show ORep X.K ca w' (upd w.H p u (w'.ρ n)) o'
        rw [e, upd_ne (np n o' g nd)]
        exact (s.liv n o' g).mono x s
    · subst e1
      show ORep X.K ca w' (upd w.H p u (w'.ρ n)) o'
      rw [e, upd_same]
      exact r.mono x s
  · intro n m o1 o2 q1 q2 d1 d2 e
    rcases at' n o1 q1 with ⟨_, g1, e1⟩ | ⟨l1, _, e1⟩
    · rcases at' m o2 q2 with ⟨_, g2, e2⟩ | ⟨l2, _, e2⟩
      · exact s.inj' n m o1 o2 g1 g2 d1 d2 (by rw [← e1, ← e2]; exact e)
      · exact absurd (e1.symm.trans (e.trans e2)) (np n o1 g1 d1)
    · rcases at' m o2 q2 with ⟨_, g2, e2⟩ | ⟨l2, _, e2⟩
      · exact absurd (e2.symm.trans (e.symm.trans e1)) (np m o2 g2 d2)
      · rw [l1, l2]
theorem new_ext {w : Wd} {p : Addr} {vs : List V} {ds : List D} (s : SOk X.K ca w) (h : w.H p = none) (r : RepL X.K ca w vs ds) :
    let w' : Wd := ⟨upd w.H p (.lst vs), fun n => if n = w.S.length then p else w.ρ n, w.S ++ [.lst ds]⟩
    Ext w w' ∧ SOk X.K ca w' := new_extO s h ⟨vs, rfl, r⟩
theorem f_new (ha : PE X a ((tF X.K ca W) gs)) : PE X a ((tE X.K ca W) (eNew gs)) := PE.imp ha fun σ H Q ⟨w, env, e, s, m, h⟩ => by
  refine ⟨w, env, e, s, m, (Sat.bind h).mono (fun ds S1 q => ?_) fun _ _ _ q => q⟩
  intro w1 hS e1 s1 vs p r hp
  subst hS
  obtain ⟨x, s2⟩ := new_ext s1 hp r
  have rr : Rep X.K ca ⟨upd w1.H p (.lst vs), fun n => if n = w1.S.length then p else w1.ρ n, w1.S ++ [.lst ds]⟩ (.ref ((fun n => if n = w1.S.length then p else w1.ρ n) w1.S.length)) (.ref w1.S.length) := .ref (by show w1.S.length < (w1.S ++ [O.lst ds]).length; rw [List.length_append]; exact Nat.lt_succ_self _)
  have ep : (fun n => if n = w1.S.length then p else w1.ρ n) w1.S.length = p := if_pos rfl
  rw [ep] at rr
  exact q _ rfl (e1.trans x) s2 (.ref p) rr
/-- [a, b, ..] -/
theorem f_lst {n : Nat} (ha : PA X es ((tEs X.K ca W) gs)) (hl : Len gs n) (hn : n ≤ sizeLine := by decide) : PE X (.List es pos) ((tF X.K ca W) gs) := PE.imp (pe_lst ha) fun σ H Q ⟨w, env, e, s, m, h⟩ => by
  have hlen : ∀ ds S', gs env w.S = .ok ds S' → ds.length = n := fun ds S' q => hl _ _ _ _ q
  refine ⟨w, env, e, s, m, ?_⟩
  cases q : gs env w.S with
  | bad => rw [q] at h; exact h
  | err c v S1 => rw [q] at h; exact h
  | ok ds S1 =>
    rw [q] at h
    intro w1 hS e1 s1 vs r
    subst hS
    exact ⟨by rw [r.length, hlen _ _ q]; exact hn, fun p hp => h w1 rfl e1 s1 vs p r hp⟩

/-! ### a if t else b -/
theorem e_ifExp {c : Expr} {t : DenT} (hc : PT X c ((tT X.K ca W) t)) (ha : PE X a ((tE X.K ca W) f)) (hb : PE X b ((tE X.K ca W) g)) : PE X (.IfExp c a b pos) ((tE X.K ca W) (eIf t f g)) :=
  PE.imp (pe_ifExp hc ha hb) fun σ H Q ⟨w, env, e, s, m, h⟩ => by
    refine tT_bind (Qb := fun w => QV X.K ca w Q) e s m h (fun e q => QV.later e q) fun w1 b s1 m1 e1 h1 => ?_
    cases b with
    | true => exact iteT ⟨w1, env, rfl, s1, m1, h1⟩
    | false => exact iteF ⟨w1, env, rfl, s1, m1, h1⟩

/-! ### tests -/
theorem val_imp {σ : St} {H : Hp} {Q : Bool → Hp → Prop} (h : (tT X.K ca W) (tVal f) σ H Q) : tB ((tE X.K ca W) f) σ H Q := by
  obtain ⟨w, env, e, s, m, h⟩ := h
  refine tE_bind (Qb := fun w => QB X.K ca w Q) e s m h (fun e q => QB.later e q) fun w1 d v s1 m1 r e1 h1 => ?_
  cases r with
  | bl b => exact ⟨b, rfl, Aft.here (w' := w1) h1 (.refl w1) s1⟩
  | _ => exact h1.elim
theorem t_val (ha : PE X a ((tE X.K ca W) f)) (he : ∀ whole, isTrue a X.env whole = (do let v ← whole; standAt a.pos; holding [v] (truthy v)) := by intro _; rfl) : PT X a ((tT X.K ca W) (tVal f)) :=
  PT.imp (pt_val ha he) fun _ _ _ h => val_imp h
theorem t_cmp {op : CmpOp} {o : Op2} (ho : OpR X (compareOp op) (rO2 X.K ca o)) (n : Mute2 o) (ha : PE X a ((tE X.K ca W) f)) (hb : PE X b ((tE X.K ca W) g)) (hm : behindInMarks op b = false) : PT X (.Compare a [op] [b] pos) ((tT X.K ca W) (tVal (eBin o f g))) :=
  PT.imp (pt_cmpR ho ha hb hm) fun σ H Q h => by
    obtain ⟨w, env, e, s, m, h⟩ := h
    have h' : (tE X.K ca W) (eBin o f g) σ H fun x H' => ∃ k, x = .bl k ∧ Q k H' := by
      refine ⟨w, env, e, s, m, (Sat.bind h).mono (fun d S1 q => ?_) fun _ _ _ q => q⟩
      intro w1 hS e1 s1 v r
      subst hS
      cases r with
      | bl b => exact ⟨b, rfl, Aft.here (w' := w1) q e1 s1⟩
      | _ => exact q.elim
    exact bin_imp n h'
theorem t_not {t : DenT} (ha : PT X a ((tT X.K ca W) t)) : PT X (.UnaryOp .Not a pos) ((tT X.K ca W) (tNot t)) := PT.imp (pt_not ha) fun σ H Q ⟨w, env, e, s, m, h⟩ =>
  ⟨w, env, e, s, m, (Sat.bind h).mono (fun b S1 q => q) fun _ _ _ q => q⟩
theorem w_and1 {t : DenT} (ha : PT X a ((tT X.K ca W) t)) : PW X (.BoolOp .And [a] pos) ((tT X.K ca W) t) := pw_and1 ha
theorem w_or1 {t : DenT} (ha : PT X a ((tT X.K ca W) t)) : PW X (.BoolOp .Or [a] pos) ((tT X.K ca W) t) := pw_or1 ha
theorem w_and {t u : DenT} (ha : PT X a ((tT X.K ca W) t)) (hb : PW X (.BoolOp .And (b :: es) pos) ((tT X.K ca W) u)) : PW X (.BoolOp .And (a :: b :: es) pos) ((tT X.K ca W) (tAnd t u)) :=
  PW.imp (pw_and ha hb) fun σ H Q ⟨w, env, e, s, m, h⟩ => by
    refine tT_bind (Qb := fun w => QB X.K ca w Q) e s m h (fun e q => QB.later e q) fun w1 b s1 m1 e1 h1 => ?_
    cases b with
    | true => exact iteT ⟨w1, env, rfl, s1, m1, h1⟩
    | false => exact iteF (Aft.here (w' := w1) h1 (.refl w1) s1)
theorem w_or {t u : DenT} (ha : PT X a ((tT X.K ca W) t)) (hb : PW X (.BoolOp .Or (b :: es) pos) ((tT X.K ca W) u)) : PW X (.BoolOp .Or (a :: b :: es) pos) ((tT X.K ca W) (tOr t u)) :=
  PW.imp (pw_or ha hb) fun σ H Q ⟨w, env, e, s, m, h⟩ => by
    refine tT_bind (Qb := fun w => QB X.K ca w Q) e s m h (fun e q => QB.later e q) fun w1 b s1 m1 e1 h1 => ?_
    cases b with
    | true => exact iteT (Aft.here (w' := w1) h1 (.refl w1) s1)
    | false => exact iteF ⟨w1, env, rfl, s1, m1, h1⟩
theorem e_one {op} (ha : PE X a ((tE X.K ca W) f)) : PE X (.BoolOp op [a] pos) ((tE X.K ca W) f) := pe_one ha
theorem e_and (ha : PE X a ((tE X.K ca W) f)) (hb : PE X (.BoolOp .And (b :: es) pos) ((tE X.K ca W) g)) : PE X (.BoolOp .And (a :: b :: es) pos) ((tE X.K ca W) (eAnd f g)) :=
  PE.imp (pe_and ha hb) fun σ H Q ⟨w, env, e, s, m, h⟩ => by
    refine tE_bind (Qb := fun w => QV X.K ca w Q) e s m h (fun e q => QV.later e q) fun w1 d v s1 m1 r e1 h1 => ?_
    cases r with
    | bl b =>
      refine ⟨b, rfl, ?_⟩
      cases b with
      | true => exact iteT ⟨w1, env, rfl, s1, m1, h1⟩
      | false => exact iteF (Aft.here (w' := w1) h1 (.refl w1) s1 _ (.bl false))
    | _ => exact h1.elim
theorem e_or (ha : PE X a ((tE X.K ca W) f)) (hb : PE X (.BoolOp .Or (b :: es) pos) ((tE X.K ca W) g)) : PE X (.BoolOp .Or (a :: b :: es) pos) ((tE X.K ca W) (eOr f g)) :=
  PE.imp (pe_or ha hb) fun σ H Q ⟨w, env, e, s, m, h⟩ => by
    refine tE_bind (Qb := fun w => QV X.K ca w Q) e s m h (fun e q => QV.later e q) fun w1 d v s1 m1 r e1 h1 => ?_
    cases r with
    | bl b =>
      refine ⟨b, rfl, ?_⟩
      cases b with
      | true => exact iteT (Aft.here (w' := w1) h1 (.refl w1) s1 _ (.bl true))
      | false => exact iteF ⟨w1, env, rfl, s1, m1, h1⟩
    | _ => exact h1.elim
theorem e_not (ha : PE X a ((tE X.K ca W) f)) : PE X (.UnaryOp .Not a pos) ((tE X.K ca W) (eNot f)) := PE.imp (pe_not ha) fun σ H Q ⟨w, env, e, s, m, h⟩ => by
  refine tE_bind (Qb := fun w => QV X.K ca w Q) e s m h (fun e q => QV.later e q) fun w1 d v s1 m1 r e1 h1 => ?_
  cases r with
  | bl b => exact ⟨b, rfl, Aft.here (w' := w1) h1 (.refl w1) s1 _ (.bl (!b))⟩
  | _ => exact h1.elim
end
end Py

set_option maxHeartbeats 4000000
/-! PyC: what the operations on values do. -/
namespace Py
open PySem PySem.Spec PyProof.Rows L2

/-! ### never raising -/
theorem m_add : Mute2 oAdd := by unfold oAdd; intro a b S c v S' h; revert h; cases a <;> cases b <;> simp <;> (repeat (split <;> simp))
theorem m_sub : Mute2 oSub := by unfold oSub; intro a b S c v S' h; revert h; cases a <;> cases b <;> simp <;> (repeat (split <;> simp))
theorem m_mul : Mute2 oMul := by unfold oMul; intro a b S c v S' h; revert h; cases a <;> cases b <;> simp <;> (repeat (split <;> simp))
theorem m_fdiv : Mute2 oFdiv := by unfold oFdiv; intro a b S c v S' h; revert h; cases a <;> cases b <;> simp <;> (repeat (split <;> simp))
theorem m_mod : Mute2 oMod := by unfold oMod; intro a b S c v S' h; revert h; cases a <;> cases b <;> simp <;> (repeat (split <;> simp))
theorem m_pow : Mute2 oPow := by unfold oPow; intro a b S c v S' h; revert h; cases a <;> cases b <;> simp <;> (repeat (split <;> simp))
theorem m_lt : Mute2 oLt := by unfold oLt; intro a b S c v S' h; revert h; cases a <;> cases b <;> simp <;> (repeat (split <;> simp))
theorem m_le : Mute2 oLe := by unfold oLe; intro a b S c v S' h; revert h; cases a <;> cases b <;> simp <;> (repeat (split <;> simp))
theorem m_gt : Mute2 oGt := by unfold oGt; intro a b S c v S' h; revert h; cases a <;> cases b <;> simp <;> (repeat (split <;> simp))
theorem m_ge : Mute2 oGe := by unfold oGe; intro a b S c v S' h; revert h; cases a <;> cases b <;> simp <;> (repeat (split <;> simp))
theorem m_eq : Mute2 oEq := by intro a b S c v S' h; revert h; unfold oEq; split <;> (try split) <;> simp
theorem m_ne : Mute2 oNe := by intro a b S c v S' h; revert h; unfold oNe; split <;> (try split) <;> simp
theorem m_neg : Mute1 oNeg := by unfold oNeg; intro a S c v S' h; revert h; cases a <;> simp
theorem m_isN : Mute1 oIsN := by unfold oIsN; intro a S c v S' h; revert h; cases a <;> simp
theorem m_notN : Mute1 oNotN := by unfold oNotN; intro a S c v S' h; revert h; cases a <;> simp

section
variable {X : Cx} {ca : Nat → Addr}
/-- what two values of an operation are -/
theorem r_int2 {f : Value → Value → Sem Value} {o : Op2} {C : Int → Int → Prop} {g : Int → Int → V} (ho : OpR X f (rI C g))
    (h : ∀ (dx dy : D) (w : Wd) (Q : VK), SOk X.K ca w → Sat (o dx dy w.S) (QV X.K ca w Q) (fun _ _ _ => False) → ∃ i j, dx = .int i ∧ dy = .int j ∧ C i j ∧ Q (g i j) w.H) : OpR X f (rO2 X.K ca o) := by
  intro pins s σ H x y v u Q I rx ry hq
  obtain ⟨w, dx, dy, e, sk, r1, r2, q⟩ := hq
  subst e
  obtain ⟨i, j, rfl, rfl, hc, q'⟩ := h dx dy w Q sk q
  cases r1
  cases r2
  exact ho pins s σ w.H _ _ v u Q I rx ry ⟨i, j, rfl, rfl, hc, q'⟩
theorem r_int0 {f : Value → Value → Sem Value} {o : Op2} {g : Int → Int → V} (ho : OpR X f (rI0 g))
    (h : ∀ (dx dy : D) (w : Wd) (Q : VK), SOk X.K ca w → Sat (o dx dy w.S) (QV X.K ca w Q) (fun _ _ _ => False) → ∃ i j, dx = .int i ∧ dy = .int j ∧ Q (g i j) w.H) : OpR X f (rO2 X.K ca o) := by
  intro pins s σ H x y v u Q I rx ry hq
  obtain ⟨w, dx, dy, e, sk, r1, r2, q⟩ := hq
  subst e
  obtain ⟨i, j, rfl, rfl, q'⟩ := h dx dy w Q sk q
  cases r1
  cases r2
  exact ho pins s σ w.H _ _ v u Q I rx ry ⟨i, j, rfl, rfl, q'⟩
theorem sat_here {w : Wd} {d : D} {Q : VK} {v : V} (s : SOk X.K ca w) (h : QV X.K ca w Q d w.S) (r : Rep X.K ca w v d) : Q v w.H := Aft.here (w' := w) h (.refl w) s v r
theorem r_sub : OpR X (binaryOp .Sub) (rO2 X.K ca oSub) := r_int0 op_sub fun dx dy w Q s h => by
  unfold oSub at h
  cases dx <;> cases dy <;> first | exact h.elim | exact ⟨_, _, rfl, rfl, sat_here s h (.int _)⟩
theorem mulOk_ok {i j : Int} (h : mulOk i j = true) : IntMulOk i j := by
  have h' : bits i + bits j ≤ 134217728 := of_decide_eq_true h
  have b : ∀ x : Int, Builtin.Int.intBits x ≤ x.natAbs.log2 + 1 := fun x => by
    unfold Builtin.Int.intBits
    split <;> omega
  have h1 := b i
  have h2 := b j
  have e : bitsLine = 134217728 := by decide
  unfold bits at h'
  unfold IntMulOk
  intro z
  rw [Bool.and_eq_true] at z
  have z2 := z.2
  unfold Builtin.Int.intTooBig at z2
  have z3 := of_decide_eq_true z2
  rw [e] at z3
  omega
theorem op_mulB : OpR X (binaryOp .Mult) (rI (fun i j => mulOk i j = true) fun i j => .int (i * j)) := opI fun _ _ _ _ _ _ _ hc q => mul_int q (mulOk_ok hc)
theorem r_mul : OpR X (binaryOp .Mult) (rO2 X.K ca oMul) := r_int2 op_mulB fun dx dy w Q s h => by
  unfold oMul at h
  cases dx <;> cases dy <;> first
    | exact h.elim
    | (rename_i i j
       by_cases hm : mulOk i j = true
       · simp only [hm, if_true] at h
         exact ⟨_, _, rfl, rfl, hm, sat_here s h (.int _)⟩
       · simp only [hm] at h
         exact h.elim)
theorem op_fdivB : OpR X (binaryOp .FloorDiv) (rI (fun _ j => divOk j = true) fun i j => .int (i.fdiv j)) := opI fun i j _ _ _ _ _ hc q => by
  unfold divOk at hc
  rw [Bool.and_eq_true] at hc
  exact floordiv_int (of_decide_eq_true hc.1) q (.inl (PyProof.noPylong_of_log2 (of_decide_eq_true hc.2)))
theorem r_fdiv : OpR X (binaryOp .FloorDiv) (rO2 X.K ca oFdiv) := r_int2 op_fdivB fun dx dy w Q s h => by
  unfold oFdiv at h
  cases dx <;> cases dy <;> first
    | exact h.elim
    | (rename_i i j
       by_cases hm : divOk j = true
       · simp only [hm, if_true] at h
         exact ⟨_, _, rfl, rfl, hm, sat_here s h (.int _)⟩
       · simp only [hm] at h
         exact h.elim)
theorem r_mod : OpR X (binaryOp .Mod) (rO2 X.K ca oMod) := r_int2 op_modN fun dx dy w Q s h => by
  unfold oMod at h
  cases dx <;> cases dy <;> first
    | exact h.elim
    | (rename_i i j
       by_cases hm : j ≠ 0
       · simp only [if_pos hm] at h
         exact ⟨_, _, rfl, rfl, hm, sat_here s h (.int _)⟩
       · simp only [if_neg hm] at h
         exact h.elim)
theorem op_powB : OpR X (binaryOp .Pow) (rI (fun i j => powOk i j = true) fun i j => .int (i ^ j.toNat)) := opI fun _ _ _ _ _ _ _ hc q => by
  unfold powOk at hc
  rw [Bool.and_eq_true, Bool.and_eq_true] at hc
  exact pow_int_small (of_decide_eq_true hc.1) (of_decide_eq_true hc.2.1) (of_decide_eq_true hc.2.2) q
theorem r_pow : OpR X (binaryOp .Pow) (rO2 X.K ca oPow) := r_int2 op_powB fun dx dy w Q s h => by
  unfold oPow at h
  cases dx <;> cases dy <;> first
    | exact h.elim
    | (rename_i i j
       by_cases hm : powOk i j = true
       · simp only [hm, if_true] at h
         exact ⟨_, _, rfl, rfl, hm, sat_here s h (.int _)⟩
       · simp only [hm] at h
         exact h.elim)
theorem r_lt : OpR X (compareOp .Lt) (rO2 X.K ca oLt) := r_int0 op_lt fun dx dy w Q s h => by
  unfold oLt at h
  cases dx <;> cases dy <;> first | exact h.elim | exact ⟨_, _, rfl, rfl, sat_here s h (.bl _)⟩
theorem r_le : OpR X (compareOp .LtE) (rO2 X.K ca oLe) := r_int0 op_le fun dx dy w Q s h => by
  unfold oLe at h
  cases dx <;> cases dy <;> first | exact h.elim | exact ⟨_, _, rfl, rfl, sat_here s h (.bl _)⟩
theorem r_gt : OpR X (compareOp .Gt) (rO2 X.K ca oGt) := r_int0 op_gt fun dx dy w Q s h => by
  unfold oGt at h
  cases dx <;> cases dy <;> first | exact h.elim | exact ⟨_, _, rfl, rfl, sat_here s h (.bl _)⟩
theorem r_ge : OpR X (compareOp .GtE) (rO2 X.K ca oGe) := r_int0 op_ge fun dx dy w Q s h => by
  unfold oGe at h
  cases dx <;> cases dy <;> first | exact h.elim | exact ⟨_, _, rfl, rfl, sat_here s h (.bl _)⟩
theorem r_neg : UnR X (unaryOp .USub) (rO1 X.K ca oNeg) := by
  intro pins s σ H x v Q I rx h
  obtain ⟨w, dx, e, sk, r1, q⟩ := h
  subst e
  unfold oNeg at q
  cases r1 with
  | int i => exact un_neg pins s σ w.H _ v Q I rx ⟨i, rfl, sat_here sk q (.int _)⟩
  | _ => exact q.elim
theorem isNon_rep {w : Wd} {v : V} {d : D} (r : Rep X.K ca w v d) : isNon d = decide (v = .non) := by
  cases r <;> simp [isNon]
theorem isN_imp {f : Den} {W : WX} {σ : St} {H : Hp} {Q : VK} (h : tE X.K ca W (eUn oIsN f) σ H Q) : tIsN (tE X.K ca W f) σ H Q := by
  obtain ⟨w, env, e, s, m, h⟩ := h
  refine tE_bind (Qb := fun w => QV X.K ca w Q) e s m h (fun e q => QV.later e q) fun w1 d v s1 m1 r e1 h1 => ?_
  have q : QV X.K ca w1 Q (.bl (isNon d)) w1.S := h1
  rw [isNon_rep r] at q
  exact sat_here s1 q (.bl _)
theorem notN_imp {f : Den} {W : WX} {σ : St} {H : Hp} {Q : VK} (h : tE X.K ca W (eUn oNotN f) σ H Q) : tNotN (tE X.K ca W f) σ H Q := by
  obtain ⟨w, env, e, s, m, h⟩ := h
  refine tE_bind (Qb := fun w => QV X.K ca w Q) e s m h (fun e q => QV.later e q) fun w1 d v s1 m1 r e1 h1 => ?_
  have q : QV X.K ca w1 Q (.bl (!isNon d)) w1.S := h1
  rw [isNon_rep r] at q
  exact sat_here s1 q (.bl _)
variable {f : Den} {W : WX} {a : Expr} {pos pos' : Pos} {j : Nat}
theorem c_isN {j} (ha : PE X a (tE X.K ca W f)) : PC X .Is a (.Constant .none j pos') (tE X.K ca W (eUn oIsN f)) := ⟨fun pins s σ H Q I h => (pc_isN ha).run pins s σ H Q I (isN_imp h)⟩
theorem c_notN {j} (ha : PE X a (tE X.K ca W f)) : PC X .IsNot a (.Constant .none j pos') (tE X.K ca W (eUn oNotN f)) := ⟨fun pins s σ H Q I h => (pc_notN ha).run pins s σ H Q I (notN_imp h)⟩
theorem e_isN {j} (ha : PE X a (tE X.K ca W f)) : PE X (.Compare a [.Is] [.Constant .none j pos'] pos) (tE X.K ca W (eUn oIsN f)) := pe_cmp (c_isN ha)
theorem e_notN {j} (ha : PE X a (tE X.K ca W f)) : PE X (.Compare a [.IsNot] [.Constant .none j pos'] pos) (tE X.K ca W (eUn oNotN f)) := pe_cmp (c_notN ha)
theorem t_isN {j} (ha : PE X a (tE X.K ca W f)) : PT X (.Compare a [.Is] [.Constant .none j pos'] pos) (tT X.K ca W (tVal (eUn oIsN f))) := PT.imp (pt_cmp (c_isN ha)) fun _ _ _ h => val_imp h
theorem t_notN {j} (ha : PE X a (tE X.K ca W f)) : PT X (.Compare a [.IsNot] [.Constant .none j pos'] pos) (tT X.K ca W (tVal (eUn oNotN f))) := PT.imp (pt_cmp (c_notN ha)) fun _ _ _ h => val_imp h

/-! ### + -/
theorem Rep.rdL {K : PySem.W.Frag} {w : Wd} {a : Addr} {ds : List D} {v : V} (r : Rep K ca w v (.lst ds)) : ∃ a vs, v = .ref a ∧ w.H a = some (.lst vs) ∧ ¬ w.M a ∧ RepL K ca w vs ds := by
  cases r with
  | lst h n r => exact ⟨_, _, rfl, h, n, r⟩
theorem r_add : OpR X (binaryOp .Add) (rO2 X.K ca oAdd) := by
  intro pins s σ H x y v u Q I rx ry h
  obtain ⟨w, dx, dy, e, sk, r1, r2, q⟩ := h
  subst e
  unfold oAdd at q
  cases r1 with
  | int i =>
    cases r2 with
    | int j => exact op_add pins s σ w.H _ _ v u Q I rx ry ⟨i, j, rfl, rfl, sat_here sk q (.int _)⟩
    | _ => exact q.elim
  | str i =>
    cases r2 with
    | str j =>
      by_cases hl : i.length + j.length ≤ sizeLine
      · simp only [if_pos hl] at q
        exact op_add_str pins s σ w.H _ _ v u Q I rx ry ⟨i, j, rfl, rfl, hl, sat_here sk q (.str _)⟩
      · simp only [if_neg hl] at q
        exact q.elim
    | _ => exact q.elim
  | @tup a vs ds h1 ra =>
    cases r2 with
    | @tup b us es h2 rb =>
      by_cases hl : ds.length + es.length ≤ sizeLine
      · simp only [if_pos hl] at q
        have hl' : vs.length + us.length ≤ sizeLine := by rw [ra.length, rb.length]; exact hl
        refine op_catA pins s σ w.H _ _ v u Q I rx ry ⟨a, b, vs, us, rfl, rfl, h1, h2, hl', ?_⟩
        refine ⟨fun z => ?_, fun z => ?_, fun z1 z2 p hp => ?_⟩
        · subst z
          cases ra
          exact sat_here sk q (.tup h2 rb)
        · intro z2
          subst z2
          cases rb
          rw [List.append_nil] at q
          exact sat_here sk q (.tup h1 ra)
        · have x := Ext.alloc (w := w) (o := .tup (vs ++ us)) hp
          exact q ⟨upd w.H p (.tup (vs ++ us)), w.ρ, w.S⟩ rfl x (sk.alloc hp) (.ref p) (.tup (.inl (.inl upd_same)) ((ra.append rb).mono x sk))
      · simp only [if_neg hl] at q
        exact q.elim
    | _ => exact q.elim
  | _ => exact q.elim

/-! ### == -/
end
mutual
def toP : D → PyData
  | .tup xs => .tuple (toPs xs) | .lst xs => .list (toPs xs) | .non => .none | .bl b => .bool b | .int i => .int i | .str x => .str x
  | .ref _ => .none | .exc _ _ => .none | .fls _ => .none | .dct _ _ => .none
def toPs : List D → List PyData
  | [] => [] | x :: xs => toP x :: toPs xs
end
mutual
theorem eqv_toP : ∀ (a b : D), pureB a = true → pureB b = true → PyData.eqv (toP a) (toP b) = eqB a b
  | .tup xs, b, ha, hb => by
    cases b <;> first
      | (simp only [toP, PyData.eqv, eqB]; exact eqvs_toP xs _ (by simpa [pureB] using ha) (by simpa [pureB] using hb))
      | (simp [toP, PyData.eqv, eqB]; done)
      | (simp [pureB] at hb; done)
  | .lst xs, b, ha, hb => by
    cases b <;> first
      | (simp only [toP, PyData.eqv, eqB]; exact eqvs_toP xs _ (by simpa [pureB] using ha) (by simpa [pureB] using hb))
      | (simp [toP, PyData.eqv, eqB]; done)
      | (simp [pureB] at hb; done)
  | .non, b, ha, hb => by cases b <;> first | (simp [toP, PyData.eqv, eqB]; done) | (simp [pureB] at hb; done)
  | .bl x, b, ha, hb => by cases b <;> first | (simp [toP, PyData.eqv, eqB, Py.b2i]; done) | (simp [pureB] at hb; done)
  | .int i, b, ha, hb => by cases b <;> first | (simp [toP, PyData.eqv, eqB, Py.b2i]; done) | (simp [pureB] at hb; done)
  | .str z, b, ha, hb => by cases b <;> first | (simp [toP, PyData.eqv, eqB]; done) | (simp [pureB] at hb; done)
  | .ref n, b, ha, hb => by simp [pureB] at ha
  | .fls n, b, ha, hb => by simp [pureB] at ha
  | .dct _ _, b, ha, hb => by simp [pureB] at ha
  | .exc c v, b, ha, hb => by simp [pureB] at ha
theorem eqvs_toP : ∀ (a b : List D), pureL a = true → pureL b = true → PyData.eqvAll (toPs a) (toPs b) = eqL a b
  | [], b, ha, hb => by cases b <;> simp [toPs, PyData.eqvAll, eqL]
  | x :: xs, b, ha, hb => by
    cases b with
    | nil => simp [toPs, PyData.eqvAll, eqL]
    | cons y ys =>
      simp only [pureL, Bool.and_eq_true] at ha hb
      simp only [toPs, PyData.eqvAll, eqL]
      rw [eqv_toP x y ha.1 hb.1, eqvs_toP xs ys ha.2 hb.2]
end
section
variable {X : Cx} {ca : Nat → Addr}
mutual
theorem Rep.dp {w : Wd} : ∀ {v : V} {d : D}, Rep X.K ca w v d → pureB d = true → Dp X.K w.H v (toP d)
  | _, _, .non, _ => by unfold toP; exact .non
  | _, _, .bl b, _ => by unfold toP; exact .bl b
  | _, _, .int i, _ => by unfold toP; exact .int i
  | _, _, .str x, _ => by unfold toP; exact .str x
  | _, _, .tup h r, p => by unfold toP; exact .tup h (RepL.dp r (by unfold pureB at p; exact p))
  | _, _, .lst h n r, p => by unfold toP; exact .lst (.inl (.inl h)) (RepL.dp r (by unfold pureB at p; exact p))
  | _, _, .ref _, p => by unfold pureB at p; cases p
  | _, _, .fls _, p => by unfold pureB at p; cases p
  | _, _, .dct _ _ _ _, p => by unfold pureB at p; cases p
  | _, _, .exc _ _ _ _ _, p => by unfold pureB at p; cases p
theorem RepL.dp {w : Wd} : ∀ {vs : List V} {ds : List D}, RepL X.K ca w vs ds → pureL ds = true → DpAll X.K w.H vs (toPs ds)
  | _, _, .nil, _ => by unfold toPs; exact .nil
  | _, _, .cons r t, p => by
    unfold pureL at p
    rw [Bool.and_eq_true] at p
    unfold toPs
    exact .cons (Rep.dp r p.1) (RepL.dp t p.2)
end
end
mutual
theorem depth_toP : ∀ d : D, (toP d).depth ≤ depth d
  | .tup xs => by
    have := depths_toP xs
    simp only [toP, depth, PyData.depth]
    omega
  | .lst xs => by
    have := depths_toP xs
    simp only [toP, depth, PyData.depth]
    omega
  | .non => by simp [toP, PyData.depth]
  | .bl b => by simp [toP, PyData.depth]
  | .int i => by simp [toP, PyData.depth]
  | .str x => by simp [toP, PyData.depth]
  | .ref n => by simp [toP, PyData.depth]
  | .fls n => by simp [toP, PyData.depth]
  | .dct _ _ => by simp [toP, PyData.depth]
  | .exc c v => by simp [toP, PyData.depth]
theorem depths_toP : ∀ ds : List D, PyData.depthAll (toPs ds) ≤ depthL ds
  | [] => by simp [toPs, PyData.depthAll]
  | x :: xs => by
    have h1 := depth_toP x
    have h2 := depths_toP xs
    simp only [toPs, depthL, PyData.depthAll]
    omega
end
mutual
theorem lay_toP : ∀ d : D, pureB d = true → (toP d).canLay0 = true
  | .tup xs, h => by
    unfold pureB at h
    simp only [toP, PyData.canLay0]
    exact lays_toP xs h
  | .lst xs, h => by
    unfold pureB at h
    simp only [toP, PyData.canLay0]
    exact lays_toP xs h
  | .non, h => by simp [toP, PyData.canLay0]
  | .bl b, h => by simp [toP, PyData.canLay0]
  | .int i, h => by simp [toP, PyData.canLay0]
  | .str x, h => by
    unfold pureB at h
    simp only [toP, PyData.canLay0]
    exact h
  | .ref n, h => by simp [toP, PyData.canLay0]
  | .fls n, h => by simp [toP, PyData.canLay0]
  | .dct _ _, h => by simp [toP, PyData.canLay0]
  | .exc c v, h => by simp [toP, PyData.canLay0]
theorem lays_toP : ∀ ds : List D, pureL ds = true → PyData.canLayAll0 (toPs ds) = true
  | [], h => by simp [toPs, PyData.canLayAll0]
  | x :: xs, h => by
    unfold pureL at h
    rw [Bool.and_eq_true] at h
    simp only [toPs, PyData.canLayAll0, Bool.and_eq_true]
    exact ⟨lay_toP x h.1, lays_toP xs h.2⟩
end
theorem shaped_fit {d : D} (h : fit d = true) : SeqAt.shaped (toP d) = true := by
  unfold fit at h
  rw [Bool.and_eq_true] at h
  unfold SeqAt.shaped
  rw [Bool.and_eq_true]
  have := depth_toP d
  have h2 := of_decide_eq_true h.2
  exact ⟨lay_toP d h.1, decide_eq_true (by omega)⟩
section
variable {X : Cx} {ca : Nat → Addr}
mutual
theorem mapR_dp {w : Wd} {g : Nat → Option D} (hg : ∀ n d', n < w.S.length → g n = some d' → pureB d' = true → Dp X.K w.H (.ref (w.ρ n)) (toP d')) : ∀ {v : V} {d d' : D}, Rep X.K ca w v d → mapR g d = some d' → pureB d' = true → Dp X.K w.H v (toP d')
  | _, _, d', .non, e, p => by unfold mapR at e; cases e; unfold toP; exact .non
  | _, _, d', .bl b, e, p => by unfold mapR at e; cases e; unfold toP; exact .bl b
  | _, _, d', .int i, e, p => by unfold mapR at e; cases e; unfold toP; exact .int i
  | _, _, d', .str x, e, p => by unfold mapR at e; cases e; unfold toP; exact .str x
  | _, _, d', .tup (ds := ds) h r, e, p => by
    unfold mapR at e
    cases q : mapRL g ds with
    | none => rw [q] at e; cases e
    | some es =>
      rw [q] at e
      cases e
      unfold toP
      exact .tup h (mapRL_dp hg r q (by unfold pureB at p; exact p))
  | _, _, d', .lst (ds := ds) h n r, e, p => by
    unfold mapR at e
    cases q : mapRL g ds with
    | none => rw [q] at e; cases e
    | some es =>
      rw [q] at e
      cases e
      unfold toP
      exact .lst (.inl (.inl h)) (mapRL_dp hg r q (by unfold pureB at p; exact p))
  | _, _, d', .ref (n := n) hn, e, p => by
    unfold mapR at e
    exact hg n d' hn e p
  | _, _, d', .fls h, e, p => by unfold mapR at e; cases e; unfold pureB at p; cases p
  | _, _, d', .dct (ks := ks) (ds := ds) _ _ _ _, e, p => by
    unfold mapR at e
    cases q : mapRL g ds with
    | none => rw [q] at e; cases e
    | some es => rw [q] at e; cases e; unfold pureB at p; cases p
  | _, _, d', .exc (x := x) _ _ _ _ _, e, p => by
    unfold mapR at e
    cases q : mapR g x with
    | none => rw [q] at e; cases e
    | some es => rw [q] at e; cases e; unfold pureB at p; cases p
theorem mapRL_dp {w : Wd} {g : Nat → Option D} (hg : ∀ n d', n < w.S.length → g n = some d' → pureB d' = true → Dp X.K w.H (.ref (w.ρ n)) (toP d')) : ∀ {vs : List V} {ds ds' : List D}, RepL X.K ca w vs ds → mapRL g ds = some ds' → pureL ds' = true → DpAll X.K w.H vs (toPs ds')
  | _, _, ds', .nil, e, p => by unfold mapRL at e; cases e; unfold toPs; exact .nil
  | _, _, ds', .cons (d := d) (ds := ds) r t, e, p => by
    unfold mapRL at e
    cases q : mapR g d with
    | none => rw [q] at e; cases e
    | some y =>
      rw [q] at e
      cases q2 : mapRL g ds with
      | none => rw [q2] at e; cases e
      | some ys =>
        rw [q2] at e
        cases e
        unfold pureL at p
        rw [Bool.and_eq_true] at p
        unfold toPs
        exact .cons (mapR_dp hg r q p.1) (mapRL_dp hg t q2 p.2)
end
theorem resN_dp {w : Wd} (s : SOk X.K ca w) : ∀ (f n : Nat) (d' : D), n < w.S.length → resN 0 w.S f n = some d' → pureB d' = true → Dp X.K w.H (.ref (w.ρ n)) (toP d')
  | 0, n, d', hn, e, p => by
    unfold resN at e
    rw [if_neg (Nat.not_lt_zero n)] at e
    cases e
  | f + 1, n, d', hn, e, p => by
    unfold resN at e
    rw [if_neg (Nat.not_lt_zero n)] at e
    cases q : w.S[n]? with
    | none => rw [q] at e; cases e
    | some o =>
      cases o with
      | dead => rw [q] at e; cases e
      | dct _ _ => rw [q] at e; cases e
      | lst xs =>
        rw [q] at e
        dsimp only at e
        obtain ⟨vs, h, r⟩ := s.live n xs q
        cases q2 : mapRL (resN 0 w.S f) xs with
        | none => rw [q2] at e; cases e
        | some ys =>
          rw [q2] at e
          cases e
          unfold toP
          exact .lst (.inl (.inl h)) (mapRL_dp (fun n d' hn e p => resN_dp s f n d' hn e p) r q2 (by unfold pureB at p; exact p))
theorem look_dp {w : Wd} {v : V} {d d' : D} (s : SOk X.K ca w) (r : Rep X.K ca w v d) (e : look d w.S = some d') (h : fit d' = true) : Dp X.K w.H v (toP d') := by
  have p : pureB d' = true := by
    unfold fit at h
    rw [Bool.and_eq_true] at h
    exact h.1
  exact mapR_dp (fun n d' hn e p => resN_dp s 9 n d' hn e p) r e p
theorem r_eq (hu : X.A.units + 64 < cLine) : OpR X (compareOp .Eq) (rO2 X.K ca oEq) := by
  intro pins s σ H x y v u Q I rx ry h
  obtain ⟨w, dx, dy, e, sk, r1, r2, q⟩ := h
  subst e
  unfold oEq at q
  cases q1 : look dx w.S with
  | none => rw [q1] at q; exact q.elim
  | some d1 =>
    rw [q1] at q
    cases q2 : look dy w.S with
    | none => rw [q2] at q; exact q.elim
    | some d2 =>
      rw [q2] at q
      dsimp only at q
      by_cases hf : (fit d1 && fit d2) = true
      · rw [if_pos hf] at q
        rw [Bool.and_eq_true] at hf
        have e1 := look_dp sk r1 q1 hf.1
        have e2 := look_dp sk r2 q2 hf.2
        refine op_eqD hu pins s σ w.H x y v u Q I rx ry ⟨_, _, e1, e2, shaped_fit hf.1, shaped_fit hf.2, ?_⟩
        rw [eqv_toP _ _ (by have z := hf.1; unfold fit at z; rw [Bool.and_eq_true] at z; exact z.1) (by have z := hf.2; unfold fit at z; rw [Bool.and_eq_true] at z; exact z.1)]
        exact sat_here sk q (.bl _)
      · rw [if_neg hf] at q
        exact q.elim
theorem r_ne (hu : X.A.units + 64 < cLine) : OpR X (compareOp .NotEq) (rO2 X.K ca oNe) := by
  intro pins s σ H x y v u Q I rx ry h
  obtain ⟨w, dx, dy, e, sk, r1, r2, q⟩ := h
  subst e
  unfold oNe at q
  cases q1 : look dx w.S with
  | none => rw [q1] at q; exact q.elim
  | some d1 =>
    rw [q1] at q
    cases q2 : look dy w.S with
    | none => rw [q2] at q; exact q.elim
    | some d2 =>
      rw [q2] at q
      dsimp only at q
      by_cases hf : (fit d1 && fit d2) = true
      · rw [if_pos hf] at q
        rw [Bool.and_eq_true] at hf
        have e1 := look_dp sk r1 q1 hf.1
        have e2 := look_dp sk r2 q2 hf.2
        refine op_neD hu pins s σ w.H x y v u Q I rx ry ⟨_, _, e1, e2, shaped_fit hf.1, shaped_fit hf.2, ?_⟩
        rw [eqv_toP _ _ (by have z := hf.1; unfold fit at z; rw [Bool.and_eq_true] at z; exact z.1) (by have z := hf.2; unfold fit at z; rw [Bool.and_eq_true] at z; exact z.1)]
        exact sat_here sk q (.bl _)
      · rw [if_neg hf] at q
        exact q.elim
end
end Py

set_option maxHeartbeats 4000000
/-! PyD: statements, targets, loops, calls, defs. -/
namespace Py
open PySem PySem.Spec PyProof.Rows L2

section
variable (K : PySem.W.Frag) (ca : Nat → Addr)
def SatS (r : RS) (w : Wd) (U : Ends) (W : WX) : Prop := match r with
  | .next e S => Aft K ca w S fun w' => ∀ σ', Sim K ca w' e σ' → U.nx σ' w'.H
  | .brk e S => Aft K ca w S fun w' => ∀ σ', Sim K ca w' e σ' → U.bk σ' w'.H
  | .cont e S => Aft K ca w S fun w' => ∀ σ', Sim K ca w' e σ' → U.ct σ' w'.H
  | .ret d S => Aft K ca w S fun w' => ∀ v, Rep K ca w' v d → U.rt v w'.H
  | .err c x e S => Aft K ca w S fun w' => ∀ σ' cls dd, Sim K ca w' e σ' → ExIn K ca w' cls dd c x → W cls dd σ' w'.H
  | .bad => False
def tS (W : WX) (F : DenS) : TS := fun U σ H => ∃ w env, w.H = H ∧ SOk K ca w ∧ Sim K ca w env σ ∧ SatS K ca (F env w.S) w U W
/-- a target -/
def tG (g : Tgt) : TG := fun v σ H Q => ∃ w env d e', w.H = H ∧ SOk K ca w ∧ Sim K ca w env σ ∧ Rep K ca w v d ∧ g d env w.S = some e' ∧ ∀ σ', Sim K ca w e' σ' → Q σ' H
/-- an iterator that walks these, while what it walks stands -/
structure ItOk (w0 : Wd) (J : It) (wk : Walk) : Prop where
  goes : ∀ i w d, Ext w0 w → SOk K ca w → wk i w.S = some (some d) → J.go i w.H
  stops : ∀ i w, Ext w0 w → SOk K ca w → wk i w.S = some none → J.stop i w.H
  yields : ∀ i w d x H', Ext w0 w → SOk K ca w → wk i w.S = some (some d) → J.yld i w.H x H' → ∃ w', w'.H = H' ∧ w'.S = w.S ∧ Ext w w' ∧ SOk K ca w' ∧ Rep K ca w' x d
def tIt (W : WX) (gi : DenI) : TI := fun σ H R => ∃ w env, w.H = H ∧ SOk K ca w ∧ Sim K ca w env σ ∧ Sat (gi env w.S) (fun wn S' => Aft K ca w S' fun w' => ∀ J, ItOk K ca w' J wn.1 → R J w'.H) (QE K ca w W σ)
end
section
variable {K : PySem.W.Frag} {ca : Nat → Addr} {w w' : Wd} {W : WX} {U U' : Ends}
theorem SatS.later {r : RS} (h : SatS K ca r w U W) (e : Ext w w') : SatS K ca r w' U W := by
  cases r with
  | bad => exact h
  | _ => exact Aft.later h e
theorem SatS.mono {r : RS} (h : SatS K ca r w U W) (hn : ∀ σ H, U.nx σ H → U'.nx σ H) (hb : ∀ σ H, U.bk σ H → U'.bk σ H) (hc : ∀ σ H, U.ct σ H → U'.ct σ H) (hr : ∀ v H, U.rt v H → U'.rt v H) : SatS K ca r w U' W := by
  cases r with
  | bad => exact h
  | next e S => exact fun w' a b c σ' m => hn _ _ (h w' a b c σ' m)
  | brk e S => exact fun w' a b c σ' m => hb _ _ (h w' a b c σ' m)
  | cont e S => exact fun w' a b c σ' m => hc _ _ (h w' a b c σ' m)
  | ret d S => exact fun w' a b c v m => hr _ _ (h w' a b c v m)
  | err c x e S => exact h
theorem ItOk.later {J : It} {wk : Walk} (h : ItOk K ca w J wk) (e : Ext w w') : ItOk K ca w' J wk :=
  ⟨fun i w2 d e2 => h.goes i w2 d (e.trans e2), fun i w2 e2 => h.stops i w2 (e.trans e2), fun i w2 d x H' e2 => h.yields i w2 d x H' (e.trans e2)⟩
end

section
variable {X : Cx} {ca : Nat → Addr} {W : WX} {pos : Pos} {f g : Den} {gs : Dens} {F G : DenS} {a b : Expr} {st : Stmt} {rest : List Stmt}

theorem s_nil : PSs X [] ((tS X.K ca W) sPass) := PSs.imp pss_nil fun U σ H ⟨w, env, e, s, m, h⟩ => by
  subst e
  exact Aft.here (w' := w) h (.refl w) s σ m
theorem s_pass : PS X (.Pass pos) ((tS X.K ca W) sPass) := PS.imp ps_pass fun U σ H ⟨w, env, e, s, m, h⟩ => by
  subst e
  exact Aft.here (w' := w) h (.refl w) s σ m
theorem s_brk : PS X (.Break pos) ((tS X.K ca W) sBrk) := PS.imp ps_break fun U σ H ⟨w, env, e, s, m, h⟩ => by
  subst e
  exact Aft.here (w' := w) h (.refl w) s σ m
theorem s_cont : PS X (.Continue pos) ((tS X.K ca W) sCont) := PS.imp ps_continue fun U σ H ⟨w, env, e, s, m, h⟩ => by
  subst e
  exact Aft.here (w' := w) h (.refl w) s σ m
theorem s_one (h : PS X st ((tS X.K ca W) F)) : PSs X [st] ((tS X.K ca W) F) := pss_one h
theorem s_cons (h1 : PS X st ((tS X.K ca W) F)) (h2 : PSs X rest ((tS X.K ca W) G)) : PSs X (st :: rest) ((tS X.K ca W) (sSeq F G)) := PSs.imp (pss_cons h1 h2) fun U σ H ⟨w, env, e, s, m, h⟩ => by
  refine ⟨w, env, e, s, m, ?_⟩
  unfold sSeq at h
  cases q : F env w.S with
  | next e1 S1 =>
    rw [q] at h
    intro w1 hS x s1 σ1 m1
    subst hS
    exact ⟨w1, e1, rfl, s1, m1, h.later x⟩
  | brk e1 S1 => rw [q] at h; exact h
  | cont e1 S1 => rw [q] at h; exact h
  | ret d S1 => rw [q] at h; exact h
  | err c x e1 S1 => rw [q] at h; exact h
  | bad => rw [q] at h; exact h

/-- from an expression's reading, what stands behind it -/
theorem tE_then {w : Wd} {env : Env} {σ : St} {H : Hp} {R : V → Hp → Prop} {U : Ends} {k : D → Store → RS} (e : w.H = H) (s : SOk X.K ca w) (m : Sim X.K ca w env σ)
    (h : SatS X.K ca (match f env w.S with | .ok d S1 => k d S1 | .err c v S1 => .err c v env S1 | .bad => .bad) w U W)
    (hr : ∀ w1 d v, SOk X.K ca w1 → Sim X.K ca w1 env σ → Rep X.K ca w1 v d → Ext w w1 → SatS X.K ca (k d w1.S) w1 U W → R v w1.H) : tE X.K ca W f σ H R := by
  refine ⟨w, env, e, s, m, ?_⟩
  cases q : f env w.S with
  | ok d S1 =>
    rw [q] at h
    intro w1 hS x s1 v r
    subst hS
    exact hr w1 d v s1 (m.mono x s) r x (h.later x)
  | err c v S1 =>
    rw [q] at h
    intro w1 hS x s1 cls dd ex
    exact h w1 hS x s1 σ cls dd (m.mono x s) ex
  | bad => rw [q] at h; exact h
theorem tT_then {t : DenT} {w : Wd} {env : Env} {σ : St} {H : Hp} {R : Bool → Hp → Prop} {U : Ends} {k : Bool → Store → RS} (e : w.H = H) (s : SOk X.K ca w) (m : Sim X.K ca w env σ)
    (h : SatS X.K ca (match t env w.S with | .ok d S1 => k d S1 | .err c v S1 => .err c v env S1 | .bad => .bad) w U W)
    (hr : ∀ w1 b, SOk X.K ca w1 → Sim X.K ca w1 env σ → Ext w w1 → SatS X.K ca (k b w1.S) w1 U W → R b w1.H) : tT X.K ca W t σ H R := by
  refine ⟨w, env, e, s, m, ?_⟩
  cases q : t env w.S with
  | ok d S1 =>
    rw [q] at h
    intro w1 hS x s1
    subst hS
    exact hr w1 d s1 (m.mono x s) x (h.later x)
  | err c v S1 =>
    rw [q] at h
    intro w1 hS x s1 cls dd ex
    exact h w1 hS x s1 σ cls dd (m.mono x s) ex
  | bad => rw [q] at h; exact h
theorem s_expr (he : PE X a ((tE X.K ca W) f)) (hs : swapsWith a none pos.line X.env = pure false := by rfl) : PS X (.Expr a pos) ((tS X.K ca W) (sExpr f)) := PS.imp (ps_expr he hs) fun U σ H ⟨w, env, e, s, m, h⟩ =>
  tE_then (k := fun _ S1 => RS.next env S1) e s m h fun w1 d v s1 m1 r x q => Aft.here (w' := w1) q (.refl w1) s1 σ m1
theorem s_doc {x j pos'} : PS X (.Expr (.Constant (.str x) j pos) pos') ((tS X.K ca W) sPass) := PS.imp ps_doc fun U σ H ⟨w, env, e, s, m, h⟩ => by
  subst e
  exact Aft.here (w' := w) h (.refl w) s σ m
theorem set_imp {i : Nat} {U : Ends} {σ : St} {H : Hp} (h : (tS X.K ca W) (sSet i f) U σ H) : (tE X.K ca W) f σ H fun x H1 => gName i x σ H1 U.nx := by
  obtain ⟨w, env, e, s, m, h⟩ := h
  exact tE_then (k := fun d S1 => RS.next (env.set i (some d)) S1) e s m h fun w1 d v s1 m1 r x q => Aft.here (w' := w1) q (.refl w1) s1 _ (m1.set i r)
theorem s_set {i : Nat} {x : Str} {pos' : Pos} (hN : X.N.Nodup) (hi : X.N[i]? = some x) (hx : Loc X.env.scope x) (he : PE X a ((tE X.K ca W) f)) (hs : swapsWith a (some (.Name x pos')) pos.line X.env = pure false := by rfl)
    (hf : X.fn x = true ∨ X.env.scope.names.lookup x = some .local := by first | exact .inl rfl | exact .inr rfl | assumption) : PS X (.Assign [.Name x pos'] a pos) ((tS X.K ca W) (sSet i f)) := PS.imp (ps_set hN hi hx he hs hf) fun U σ H h => set_imp h
/-- .. from a reading of its own (a comprehension given to a name) -/
theorem s_setOf {i : Nat} {t : TE} (h : PS X st (tAsg t (gName i))) (hw : ∀ σ H Q, (tE X.K ca W) f σ H Q → t σ H Q) : PS X st ((tS X.K ca W) (sSet i f)) := PS.imp h fun U σ H q => hw _ _ _ (set_imp q)
theorem s_ret (he : PE X a ((tE X.K ca W) f)) : PS X (.Return (some a) pos) ((tS X.K ca W) (sRet f)) := PS.imp (ps_ret he) fun U σ H ⟨w, env, e, s, m, h⟩ =>
  tE_then (k := fun d S1 => RS.ret d S1) e s m h fun w1 d v s1 m1 r x q => Aft.here (w' := w1) q (.refl w1) s1 v r
theorem s_retN : PS X (.Return none pos) ((tS X.K ca W) sRetN) := PS.imp ps_retN fun U σ H ⟨w, env, e, s, m, h⟩ => by
  subst e
  exact Aft.here (w' := w) h (.refl w) s .non .non
theorem s_if {c : Expr} {t : DenT} {p q : List Stmt} (hc : PT X c ((tT X.K ca W) t)) (ha : PSs X p ((tS X.K ca W) F)) (hb : PSs X q ((tS X.K ca W) G)) : PS X (.If c p q pos) ((tS X.K ca W) (sIf t F G)) := PS.imp (ps_if hc ha hb) fun U σ H ⟨w, env, e, s, m, h⟩ =>
  tT_then (k := fun c S1 => if c then F env S1 else G env S1) e s m h fun w1 b s1 m1 x q => by
    cases b with
    | true => exact iteT ⟨w1, env, rfl, s1, m1, q⟩
    | false => exact iteF ⟨w1, env, rfl, s1, m1, q⟩

/-! ### targets -/
theorem g_name {i : Nat} {x : Str} (hN : X.N.Nodup) (hi : X.N[i]? = some x) (hx : Loc X.env.scope x) (hf : X.fn x = true ∨ X.env.scope.names.lookup x = some .local := by first | exact .inl rfl | exact .inr rfl | assumption) : PG X (.Name x pos) ((tG X.K ca) (gNm i)) :=
  ⟨fun pins s σ H v u Q I r h => (pg_name hN hi hx hf).run pins s σ H v u Q I r (by
    obtain ⟨w, env, d, e', e, sk, m, rp, hg, q⟩ := h
    have he : e' = env.set i (some d) := (Option.some.inj hg).symm
    subst he
    exact q _ (m.set i rp))⟩
def gAll : List Tgt → List D → Env → Store → Option Env
  | [], [], e, _ => some e
  | g :: gs, d :: ds, e, S => (match g d e S with | some e1 => gAll gs ds e1 S | none => none)
  | _, _, _, _ => none
def gTup (gs : List Tgt) : Tgt := fun d e S => match d with
  | .tup xs => gAll gs xs e S
  | .lst xs => gAll gs xs e S
  | _ => none
theorem gAll_length : ∀ {gs : List Tgt} {ds : List D} {e e' : Env} {S : Store}, gAll gs ds e S = some e' → ds.length = gs.length
  | [], [], _, _, _, _ => rfl
  | [], _ :: _, _, _, _, h => by cases h
  | _ :: _, [], _, _, _, h => by cases h
  | g :: gs, d :: ds, e, e', S, h => by
    unfold gAll at h
    cases q : g d e S with
    | none => rw [q] at h; cases h
    | some e1 =>
      rw [q] at h
      rw [List.length_cons, List.length_cons, gAll_length h]
def tGs (K : PySem.W.Frag) (ca : Nat → Addr) (gs : List Tgt) : TGs := fun vs σ H Q => ∃ w env ds e', w.H = H ∧ SOk K ca w ∧ Sim K ca w env σ ∧ RepL K ca w vs ds ∧ gAll gs ds env w.S = some e' ∧ ∀ σ', Sim K ca w e' σ' → Q σ' H
theorem gs_nil : PGs X [] (tGs X.K ca []) := ⟨fun pins s σ H vs us Q I r h => pgs_nil.run pins s σ H vs us Q I r (by
  obtain ⟨w, env, ds, e', e, sk, m, rp, hg, q⟩ := h
  cases rp with
  | nil =>
    have he : e' = env := (Option.some.inj hg).symm
    subst he
    exact ⟨rfl, q _ m⟩
  | cons _ _ => cases hg)⟩
theorem gs_cons {t : Tgt} {ts : List Tgt} {es : List Expr} (h1 : PG X a ((tG X.K ca) t)) (h2 : PGs X es (tGs X.K ca ts))
    (hs : (assignEach (a :: es) X.env).map (·.2) = assign a X.env :: (assignEach es X.env).map (·.2) := by rfl) : PGs X (a :: es) (tGs X.K ca (t :: ts)) :=
  ⟨fun pins s σ H vs us Q I r h => (pgs_cons h1 h2 hs).run pins s σ H vs us Q I r (by
    obtain ⟨w, env, ds, e', e, sk, m, rp, hg, q⟩ := h
    cases rp with
    | nil => cases hg
    | @cons v d vs ds rv rt =>
      refine ⟨v, vs, rfl, ?_⟩
      unfold gAll at hg
      cases z : t d env w.S with
      | none => rw [z] at hg; cases hg
      | some e1 =>
        rw [z] at hg
        exact ⟨w, env, d, e1, e, sk, m, rv, z, fun σ1 m1 => ⟨w, e1, ds, e', e, sk, m1, rt, hg, q⟩⟩)⟩
theorem g_tup {ts : List Tgt} {es : List Expr} {k : Nat} (hc : X.calm = true) (h : PGs X es (tGs X.K ca ts)) (hl : ts.length = es.length := by rfl)
    (hn : (assignEach es X.env).length = es.length := by rfl) (hst : (assignEach es X.env).findIdx? (·.1) = none := by rfl) : PG X (.Tuple es k pos) ((tG X.K ca) (gTup ts)) :=
  ⟨fun pins s σ H v u Q I r h0 => by
    obtain ⟨w, env, d, e', e, sk, m, rp, hg, q⟩ := h0
    subst e
    cases rp with
    | @tup a vs ds hq ra =>
      have hlen := gAll_length hg
      exact (pg_tup hc h (n := es.length) hn hst).run pins s σ w.H _ u Q I r ⟨a, vs, rfl, hq, by rw [ra.length, hlen, hl], ⟨w, env, ds, e', rfl, sk, m, ra, hg, q⟩⟩
    | @lst a vs ds hq hM ra =>
      have hlen := gAll_length hg
      exact (pg_lst hc h (n := es.length) hn hst).run pins s σ w.H _ u Q I r ⟨a, vs, rfl, .inl (.inl hq), by rw [ra.length, hlen, hl], ⟨w, env, ds, e', rfl, sk, m, ra, hg, q⟩⟩
    | _ => cases hg⟩
/-- target = value -/
def sAsg (g : Tgt) (f : Den) : DenS := fun e S => match f e S with
  | .ok d S1 => (match g d e S1 with | some e1 => .next e1 S1 | none => .bad)
  | .err c v S1 => .err c v e S1
  | .bad => .bad
theorem s_asg {tg : Expr} {t : Tgt} (he : PE X a ((tE X.K ca W) f)) (hg : PG X tg ((tG X.K ca) t)) (hs : swapsWithSole [tg] a pos.line X.env = pure false := by rfl) (hw : swappedStores [tg] a X.env = pure none := by rfl)
    (h1 : (assignEach [tg] X.env).map (·.2) = [assign tg X.env] := by rfl) : PS X (.Assign [tg] a pos) ((tS X.K ca W) (sAsg t f)) := PS.imp (ps_asg he hg hs hw h1) fun U σ H ⟨w, env, e, s, m, h⟩ =>
  tE_then (k := fun d S1 => match t d env S1 with | some e1 => RS.next e1 S1 | none => RS.bad) e s m h fun w1 d v s1 m1 r x q => by
    cases z : t d env w1.S with
    | none => rw [z] at q; exact q.elim
    | some e1 =>
      rw [z] at q
      exact ⟨w1, env, d, e1, rfl, s1, m1, r, z, fun σ' m' => Aft.here (w' := w1) q (.refl w1) s1 σ' m'⟩
/-- a, b = x, y -/
def sPar (i j : Nat) (f g : Den) : DenS := fun e S => match f e S with
  | .ok d S1 => (match g e S1 with | .ok d2 S2 => .next ((e.set i (some d)).set j (some d2)) S2 | .err c v S2 => .err c v e S2 | .bad => .bad)
  | .err c v S1 => .err c v e S1
  | .bad => .bad
theorem s_par {i j : Nat} {x y : Str} {px py pt : Pos} {kt k2 pt2} (hc : X.calm = true) (hN : X.N.Nodup) (hi : X.N[i]? = some x) (hj : X.N[j]? = some y) (hij : i ≠ j)
    (hx : X.env.scope.names.lookup x = some .local) (hy : X.env.scope.names.lookup y = some .local) (ha : PE X a ((tE X.K ca W) f)) (hb : PE X b ((tE X.K ca W) g))
    (hw : swappedStores [.Tuple [.Name x px, .Name y py] kt pt] (.Tuple [a, b] k2 pt2) X.env = pure (some [x, y])) (hst : starEach [a, b] X.env = (false, eval a X.env) :: starEach [b] X.env := by rfl) (hst2 : starEach [b] X.env = (false, eval b X.env) :: starEach [] X.env := by rfl)
    (hs : swapsWithSole [.Tuple [.Name x px, .Name y py] kt pt] (.Tuple [a, b] k2 pt2) pos.line X.env = pure false := by rfl) :
    PS X (.Assign [.Tuple [.Name x px, .Name y py] kt pt] (.Tuple [a, b] k2 pt2) pos) ((tS X.K ca W) (sPar i j f g)) :=
  PS.imp (ps_par hc hN hi hj hij hx hy (pa_cons ha (pa_cons hb pa_nil hst2) hst) hw hs) fun U σ H ⟨w, env, e, s, m, h⟩ =>
    tE_then (k := fun d S1 => match g env S1 with | .ok d2 S2 => RS.next ((env.set i (some d)).set j (some d2)) S2 | .err c v S2 => RS.err c v env S2 | .bad => RS.bad) e s m h fun w1 d v s1 m1 r x q =>
      tE_then (f := g) (k := fun d2 S2 => RS.next ((env.set i (some d)).set j (some d2)) S2) rfl s1 m1 q fun w2 d2 v2 s2 m2 r2 x2 q2 =>
        ⟨v, v2, rfl, Aft.here (w' := w2) q2 (.refl w2) s2 _ ((m2.set i (r.mono x2 s1)).set j r2)⟩

/-! ### what a loop walks -/
theorem itl_ok {w : Wd} {a : Addr} {vs : List V} {ds : List D} (s : SOk X.K ca w) (h : w.H a = some (.lst vs)) (n : ¬ w.M a) (r : RepL X.K ca w vs ds) : ItOk X.K ca w (Itl X.K a) (wkL ds) where
  goes := fun i w2 d e s2 hi => by
    obtain ⟨v, hv, _⟩ := r.get (Option.some.inj hi)
    exact ⟨vs, v, .inl (.inl (e.keep _ _ h n)), hv⟩
  stops := fun i w2 e s2 hi => ⟨vs, .inl (.inl (e.keep _ _ h n)), by rw [r.length]; exact List.getElem?_eq_none_iff.mp (Option.some.inj hi)⟩
  yields := fun i w2 d x H' e s2 hi y => by
    obtain ⟨e1, y⟩ := y
    have q := y vs (.inl (.inl (e.keep _ _ h n)))
    obtain ⟨d', hd, rd⟩ := r.getV q
    have ed : some d' = some d := hd.symm.trans (Option.some.inj hi)
    cases ed
    exact ⟨w2, e1.symm, rfl, .refl w2, s2, rd.mono e s⟩
theorem itt_ok {w : Wd} {a : Addr} {vs : List V} {ds : List D} (s : SOk X.K ca w) (h : SqT X.K w.H a vs) (r : RepL X.K ca w vs ds) : ItOk X.K ca w (Itt X.K a) (wkL ds) where
  goes := fun i w2 d e s2 hi => by
    obtain ⟨v, hv, _⟩ := r.get (Option.some.inj hi)
    exact ⟨vs, v, e.sqT s h, hv⟩
  stops := fun i w2 e s2 hi => ⟨vs, e.sqT s h, by rw [r.length]; exact List.getElem?_eq_none_iff.mp (Option.some.inj hi)⟩
  yields := fun i w2 d x H' e s2 hi y => by
    obtain ⟨e1, y⟩ := y
    have q := y vs (e.sqT s h)
    obtain ⟨d', hd, rd⟩ := r.getV q
    have ed : some d' = some d := hd.symm.trans (Option.some.inj hi)
    cases ed
    exact ⟨w2, e1.symm, rfl, .refl w2, s2, rd.mono e s⟩
theorem fls_sq {K : PySem.W.Frag} {H : Hp} {a : Addr} {vs : List V} (h : (∃ o, H a = some (.frz o (.lst vs))) ∨ ∃ (o : Obj) (its : Array Value) (n : Nat), K.lookup a = some o ∧ o.cls = .type "list" ∧ o.dict = none ∧ o.data = .seq its n ∧ its.size ≤ sizeLine ∧ Vals vs its.toList) : SqL K H a vs := h.elim (fun ⟨o, q⟩ => .inl (.inr ⟨o, q⟩)) .inr
theorem repL_ints {K : PySem.W.Frag} {ca : Nat → Addr} {w : Wd} : ∀ is : List Int, RepL K ca w (is.map V.int) (is.map D.int)
  | [] => .nil
  | i :: is => .cons (.int i) (repL_ints is)
theorem itf_ok {w : Wd} {a : Addr} {is : List Int} (s : SOk X.K ca w) (h : (∃ o, w.H a = some (.frz o (.lst (is.map V.int)))) ∨ ∃ (o : Obj) (its : Array Value) (n : Nat), X.K.lookup a = some o ∧ o.cls = .type "list" ∧ o.dict = none ∧ o.data = .seq its n ∧ its.size ≤ sizeLine ∧ Vals (is.map V.int) its.toList) : ItOk X.K ca w (Itl X.K a) (wkL (is.map D.int)) := by
  have kp : ∀ w2, Ext w w2 → SqL X.K w2.H a (is.map V.int) := fun w2 e => by
    rcases h with ⟨o, q⟩ | q
    · exact .inl (.inr ⟨o, e.keep _ _ q (s.notM q fun _ z => by cases z)⟩)
    · exact .inr q
  exact {
    goes := fun i w2 d e s2 hi => by
      obtain ⟨v, hv, _⟩ := (repL_ints (K := X.K) (ca := ca) (w := w) is).get (Option.some.inj hi)
      exact ⟨_, v, kp w2 e, hv⟩
    stops := fun i w2 e s2 hi => ⟨_, kp w2 e, by rw [(repL_ints (K := X.K) (ca := ca) (w := w) is).length]; exact List.getElem?_eq_none_iff.mp (Option.some.inj hi)⟩
    yields := fun i w2 d x H' e s2 hi y => by
      obtain ⟨e1, y⟩ := y
      have q := y _ (kp w2 e)
      obtain ⟨d', hd, rd⟩ := (repL_ints (K := X.K) (ca := ca) (w := w) is).getV q
      have ed : some d' = some d := hd.symm.trans (Option.some.inj hi)
      cases ed
      exact ⟨w2, e1.symm, rfl, .refl w2, s2, rd.mono e s⟩ }
theorem wkR_of {n i : Nat} {S : Store} {o : Option D} (h : wkR n i S = some o) : ∃ xs, S[n]? = some (.lst xs) ∧ xs[i]? = o := by
  unfold wkR at h
  cases q : S[n]? with
  | none => rw [q] at h; cases h
  | some u =>
    cases u with
    | dead => rw [q] at h; cases h
    | dct _ _ => rw [q] at h; cases h
    | lst xs => rw [q] at h; exact ⟨xs, rfl, Option.some.inj h⟩
theorem itref_ok {w : Wd} {n : Nat} (hn : n < w.S.length) : ItOk X.K ca w (Itl X.K (w.ρ n)) (wkR n) where
  goes := fun i w2 d e s2 hi => by
    obtain ⟨xs, hS, hx⟩ := wkR_of hi
    obtain ⟨vs, hv, r⟩ := s2.live n xs hS
    rw [e.rho n hn] at hv
    obtain ⟨v, hv2, _⟩ := r.get hx
    exact ⟨vs, v, .inl (.inl hv), hv2⟩
  stops := fun i w2 e s2 hi => by
    obtain ⟨xs, hS, hx⟩ := wkR_of hi
    obtain ⟨vs, hv, r⟩ := s2.live n xs hS
    rw [e.rho n hn] at hv
    exact ⟨vs, .inl (.inl hv), by rw [r.length]; exact List.getElem?_eq_none_iff.mp hx⟩
  yields := fun i w2 d x H' e s2 hi y => by
    obtain ⟨e1, y⟩ := y
    obtain ⟨xs, hS, hx⟩ := wkR_of hi
    obtain ⟨vs, hv, r⟩ := s2.live n xs hS
    rw [e.rho n hn] at hv
    have q := y vs (.inl (.inl hv))
    obtain ⟨d', hd, rd⟩ := r.getV q
    have ed : some d' = some d := hd.symm.trans hx
    cases ed
    exact ⟨w2, e1.symm, rfl, .refl w2, s2, rd⟩
theorem i_seq {tg : Expr} (ha : PE X a ((tE X.K ca W) f)) : PI X tg a (tIt X.K ca W (dSeq f)) := by
  refine ⟨fun pins s σ H R I h => ?_⟩
  obtain ⟨w, env, e, sk, m, h⟩ := h
  subst e
  have h' := Sat.bind h
  cases q : f env w.S with
  | bad => rw [q] at h'; exact h'.elim
  | err c v S1 =>
    rw [q] at h'
    exact (pi_list ha).run pins s σ w.H R I ⟨w, env, rfl, sk, m, by rw [q]; exact h'⟩
  | ok d S1 =>
    rw [q] at h'
    cases d with
    | lst xs =>
      refine (pi_list ha).run pins s σ w.H R I ⟨w, env, rfl, sk, m, ?_⟩
      rw [q]
      intro w1 hS x s1 v r
      cases r with
      | @lst a vs ds hq hM ra => exact ⟨a, rfl, ⟨vs, .inl (.inl hq)⟩, h' w1 hS x s1 _ (itl_ok s1 hq hM ra)⟩
    | fls is =>
      refine (pi_list ha).run pins s σ w.H R I ⟨w, env, rfl, sk, m, ?_⟩
      rw [q]
      intro w1 hS x s1 v r
      cases r with
      | @fls a is hq => exact ⟨a, rfl, ⟨is.map V.int, fls_sq hq⟩, h' w1 hS x s1 _ (itf_ok s1 hq)⟩
    | ref n =>
      refine (pi_list ha).run pins s σ w.H R I ⟨w, env, rfl, sk, m, ?_⟩
      rw [q]
      intro w1 hS x s1 v r
      subst hS
      cases r with
      | ref hn =>
        change Sat (match w1.S[n]? with | some (.lst xs) => Py.R.ok (wkR n, xs.length) w1.S | _ => Py.R.bad) _ _ at h'
        cases z : w1.S[n]? with
        | none => rw [z] at h'; exact h'.elim
        | some o =>
          cases o with
          | dead => rw [z] at h'; exact h'.elim
          | dct _ _ => rw [z] at h'; exact h'.elim
          | lst xs =>
            rw [z] at h'
            obtain ⟨vs, hv, _⟩ := s1.live n xs z
            exact ⟨_, rfl, ⟨vs, .inl (.inl hv)⟩, h' w1 rfl x s1 _ (itref_ok hn)⟩
    | tup xs =>
      refine (pi_tup ha).run pins s σ w.H R I ⟨w, env, rfl, sk, m, ?_⟩
      rw [q]
      intro w1 hS x s1 v r
      cases r with
      | @tup a vs ds hq ra => exact ⟨a, rfl, ⟨vs, hq⟩, h' w1 hS x s1 _ (itt_ok s1 hq ra)⟩
    | _ => exact h'.elim
theorem itr_ok {w : Wd} {lo : Int} {n : Nat} : ItOk X.K ca w (Itr lo n) (wkL (intsD lo n)) where
  goes := fun i w2 d e s2 hi => by
    have q := List.getElem?_eq_some_iff.mp (Option.some.inj hi)
    obtain ⟨q, _⟩ := q
    rw [intsD_length] at q
    exact q
  stops := fun i w2 e s2 hi => by
    have q := List.getElem?_eq_none_iff.mp (Option.some.inj hi)
    rw [intsD_length] at q
    exact q
  yields := fun i w2 d x H' e s2 hi y => by
    obtain ⟨e1, y⟩ := y
    subst y
    obtain ⟨q, _⟩ := List.getElem?_eq_some_iff.mp (Option.some.inj hi)
    rw [intsD_length] at q
    have ed : some (D.int (lo + (i : Int))) = some d := (intsD_get lo n i q).symm.trans (Option.some.inj hi)
    cases ed
    exact ⟨w2, e1.symm, rfl, .refl w2, s2, .int _⟩
theorem i_rng1 {tg : Expr} {p : Pos} (hg : Gl X "range") (hm : X.mg "range" = none) (ha : PE X a ((tE X.K ca W) f)) (hs : starEach [a] X.env = [(false, eval a X.env)] := by rfl) : PI X tg (.Call (.Name "range" p) [a] [] pos) (tIt X.K ca W (dRng1 f)) := by
  refine ⟨fun pins s σ H R I h => (pi_range1 hg hm (pa_cons ha pa_nil hs) hs).run pins s σ H R I ?_⟩
  obtain ⟨w, env, e, sk, m, h⟩ := h
  refine ⟨w, env, e, sk, m, (Sat.bind h).mono (fun d S1 q => ?_) fun _ _ _ q => q⟩
  intro w1 hS x s1 v r
  cases r with
  | int j =>
    by_cases hj : inR j = true
    · simp only [hj, if_true] at q
      obtain ⟨h1, h2⟩ := inR_ok hj
      exact ⟨j, rfl, h1, h2, q w1 hS x s1 _ itr_ok⟩
    · simp only [hj] at q
      exact q.elim
  | _ => exact q.elim
theorem i_rng2 {tg : Expr} {p : Pos} (hg : Gl X "range") (hm : X.mg "range" = none) (ha : PE X a ((tE X.K ca W) f)) (hb : PE X b ((tE X.K ca W) g)) (hs : starEach [a, b] X.env = [(false, eval a X.env), (false, eval b X.env)] := by rfl) (hs2 : starEach [b] X.env = [(false, eval b X.env)] := by rfl) :
    PI X tg (.Call (.Name "range" p) [a, b] [] pos) (tIt X.K ca W (dRng2 f g)) := by
  refine ⟨fun pins s σ H R I h => (pi_range2 hg hm (pa_cons ha (pa_cons hb pa_nil hs2) (by rw [hs, hs2])) hs hs2).run pins s σ H R I ?_⟩
  obtain ⟨w, env, e, sk, m, h⟩ := h
  refine tE_bind (Qb := fun w => fun (wn : Walk × Nat) S' => Aft X.K ca w S' fun w' => ∀ J, ItOk X.K ca w' J wn.1 → R J w'.H) e sk m h (fun e q => q.later e) fun w1 d v s1 m1 r e1 h1 => ?_
  refine tE_bind (Qb := fun w => fun (wn : Walk × Nat) S' => Aft X.K ca w S' fun w' => ∀ J, ItOk X.K ca w' J wn.1 → R J w'.H) rfl s1 m1 h1 (fun e q => q.later e) fun w2 d2 v2 s2 m2 r2 e2 h2 => ?_
  cases r with
  | int i =>
    cases r2 with
    | int j =>
      by_cases hj : (inR i && inR j) = true
      · simp only [hj, if_true] at h2
        rw [Bool.and_eq_true] at hj
        obtain ⟨h1, h3⟩ := inR_ok hj.1
        obtain ⟨h4, h5⟩ := inR_ok hj.2
        exact ⟨i, j, rfl, ⟨h1, h3, h4, h5⟩, Aft.here (w' := w2) h2 (.refl w2) s2 _ itr_ok⟩
      · simp only [hj] at h2
        exact h2.elim
    | _ => exact h2.elim
  | _ => exact h2.elim

/-! ### for, while -/
theorem s_for {tg iter : Expr} {body : List Stmt} {gi : DenI} {t : Tgt} (hp : PassesOwn (model X.prog X.w) X.A X.env X.xe) (hc : X.calm = true) (hi : PI X tg iter (tIt X.K ca W gi)) (hg : PG X tg ((tG X.K ca) t)) (hb : PSs X body ((tS X.K ca W) F))
    (hs : ∀ x, foldedSetIterable iter X.env x = pure x := by intro _; rfl) : PS X (.For tg iter body [] pos) ((tS X.K ca W) (sFor t gi F)) := PS.imp (ps_for hp hc hi hg hb hs) fun U σ H ⟨w, env, e, s, m, h⟩ => by
  refine ⟨w, env, e, s, m, ?_⟩
  unfold sFor at h
  cases q : gi env w.S with
  | bad => rw [q] at h; exact h
  | err c v S1 =>
    rw [q] at h
    intro w1 hS x s1 cls dd ex
    exact h w1 hS x s1 σ cls dd (m.mono x s) ex
  | ok wn S1 =>
    obtain ⟨wk, n⟩ := wn
    rw [q] at h
    dsimp only at h
    intro w1 hS x1 s1 J hJ
    subst hS
    refine ⟨fun i k σ H => ∃ w2 env2, w2.H = H ∧ Ext w1 w2 ∧ SOk X.K ca w2 ∧ Sim X.K ca w2 env2 σ ∧ SatS X.K ca (forW t F wk k i env2 w2.S) w2 U W,
      ⟨n, w1, env, rfl, .refl w1, s1, m.mono x1 s, h.later x1⟩, ?_⟩
    rintro i k σ2 H2 ⟨w2, env2, rfl, x2, s2, m2, h2⟩
    cases k with
    | zero =>
      unfold forW at h2
      cases z : wk i w2.S with
      | none => rw [z] at h2; exact h2.elim
      | some o =>
        cases o with
        | some d => rw [z] at h2; exact h2.elim
        | none =>
          rw [z] at h2
          exact .inl ⟨hJ.stops i w2 x2 s2 z, Aft.here (w' := w2) h2 (.refl w2) s2 _ m2⟩
    | succ k =>
      unfold forW at h2
      cases z : wk i w2.S with
      | none => rw [z] at h2; exact h2.elim
      | some o =>
        cases o with
        | none =>
          rw [z] at h2
          exact .inl ⟨hJ.stops i w2 x2 s2 z, Aft.here (w' := w2) h2 (.refl w2) s2 _ m2⟩
        | some d =>
          rw [z] at h2
          dsimp only at h2
          refine .inr ⟨hJ.goes i w2 d x2 s2 z, fun σ' H' => ∃ w3 env3, w3.H = H' ∧ Ext w1 w3 ∧ SOk X.K ca w3 ∧ Sim X.K ca w3 env3 σ' ∧ SatS X.K ca (forW t F wk k (i + 1) env3 w3.S) w3 U W,
            fun σ' H' z => ⟨k, Nat.lt_succ_self k, z⟩, fun v H' y => ?_⟩
          obtain ⟨w3, eH, eS, x3, s3, rd⟩ := hJ.yields i w2 d v H' x2 s2 z y
          rw [← eS] at h2
          cases zt : t d env2 w3.S with
          | none => rw [zt] at h2; exact h2.elim
          | some e1 =>
            rw [zt] at h2
            dsimp only at h2
            refine ⟨w3, env2, d, e1, eH, s3, m2.mono x3 s2, rd, zt, fun σ3 m3 => ⟨w3, e1, eH, s3, m3, ?_⟩⟩
            cases zb : F e1 w3.S with
            | bad => rw [zb] at h2; exact h2.elim
            | next e2 S2 =>
              rw [zb] at h2
              intro w4 hS x4 s4 σ4 m4
              subst hS
              exact ⟨w4, e2, rfl, x2.trans (x3.trans x4), s4, m4, SatS.later h2 (x3.trans x4)⟩
            | cont e2 S2 =>
              rw [zb] at h2
              intro w4 hS x4 s4 σ4 m4
              subst hS
              exact ⟨w4, e2, rfl, x2.trans (x3.trans x4), s4, m4, SatS.later h2 (x3.trans x4)⟩
            | brk e2 S2 =>
              rw [zb] at h2
              exact Aft.later h2 x3
            | ret d2 S2 =>
              rw [zb] at h2
              exact Aft.later h2 x3
            | err c x e2 S2 =>
              rw [zb] at h2
              exact Aft.later h2 x3
theorem s_while {c : Expr} {body : List Stmt} {t : DenT} (hp : PassesOwn (model X.prog X.w) X.A X.env X.xe) (hc : PT X c ((tT X.K ca W) t)) (hb : PSs X body ((tS X.K ca W) F)) : PS X (.While c body [] pos) ((tS X.K ca W) (sWhile t F)) :=
  PS.imp (ps_while hp hc hb) fun U σ H ⟨w, env, e, s, m, h⟩ => by
    have hn : sWhile t F env w.S ≠ .bad := fun z => by rw [z] at h; exact h
    obtain ⟨n, hn⟩ := sWhile_some hn
    rw [← hn] at h
    refine ⟨fun k σ H => ∃ w2 env2, w2.H = H ∧ SOk X.K ca w2 ∧ Sim X.K ca w2 env2 σ ∧ SatS X.K ca (whileN t F k env2 w2.S) w2 U W, ⟨n, w, env, e, s, m, h⟩, ?_⟩
    rintro k σ2 H2 ⟨w2, env2, rfl, s2, m2, h2⟩
    cases k with
    | zero => exact h2.elim
    | succ k =>
      unfold whileN at h2
      refine ⟨w2, env2, rfl, s2, m2, ?_⟩
      cases z : t env2 w2.S with
      | bad => rw [z] at h2; exact h2
      | err c v S1 =>
        rw [z] at h2
        intro w3 hS x s3 cls dd ex
        exact h2 w3 hS x s3 σ2 cls dd (m2.mono x s2) ex
      | ok b S1 =>
        rw [z] at h2
        intro w3 hS x3 s3
        subst hS
        cases b with
        | false => exact iteF (Aft.here (w' := w3) h2 x3 s3 _ (m2.mono x3 s2))
        | true =>
          refine iteT ⟨fun σ' H' => ∃ w4 env4, w4.H = H' ∧ SOk X.K ca w4 ∧ Sim X.K ca w4 env4 σ' ∧ SatS X.K ca (whileN t F k env4 w4.S) w4 U W, fun σ' H' z => ⟨k, Nat.lt_succ_self k, z⟩, w3, env2, rfl, s3, m2.mono x3 s2, ?_⟩
          simp only at h2
          cases zb : F env2 w3.S with
          | bad => rw [zb] at h2; exact h2.elim
          | next e2 S2 =>
            rw [zb] at h2
            intro w4 hS x4 s4 σ4 m4
            subst hS
            exact ⟨w4, e2, rfl, s4, m4, SatS.later h2 (x3.trans x4)⟩
          | cont e2 S2 =>
            rw [zb] at h2
            intro w4 hS x4 s4 σ4 m4
            subst hS
            exact ⟨w4, e2, rfl, s4, m4, SatS.later h2 (x3.trans x4)⟩
          | brk e2 S2 =>
            rw [zb] at h2
            exact Aft.later h2 x3
          | ret d2 S2 =>
            rw [zb] at h2
            exact Aft.later h2 x3
          | err c x e2 S2 =>
            rw [zb] at h2
            exact Aft.later h2 x3

/-! ### calls -/
/-- the promise of the def number i with n parameters -/
def spF (K : PySem.W.Frag) (ca : Nat → Addr) (Γ : Calls) (i n : Nat) : Sp := fun vs H Q E => ∃ w ds, w.H = H ∧ vs.length = n ∧ SOk K ca w ∧ RepL K ca w vs ds ∧ Sat (Γ i ds w.S) (QV K ca w Q) fun c x S => Aft K ca w S fun w' => ∀ cls dd, ExIn K ca w' cls dd c x → E cls dd w'.H
theorem e_call {Γ : Calls} {i n k : Nat} {fa : Addr} {fd : FuncData} {ps : List Str} {x : Str} {p : Pos} {es : List Expr} (Fn : FnOk X.prog X.w X.K X.mg X.base (L2N.CX X.prog X.w) k fa fd ps (spF X.K ca Γ i n)) (hr : Room k X.A) (hg : Gl X x) (hm : X.mg x = some (.ref fa))
    (hk : PySem.W.keepIn X.K (.ref fa) = true) (hb : Binds X.K fd ps []) (tk : L2N.Takes X W) (ha : PA X (a :: es) ((tEs X.K ca W) gs)) (hl : Len gs n) (hdb : (x == ("__debug__" : Str)) = false := by decide)
    (he : starEach (a :: es) X.env = (false, eval a X.env) :: starEach es X.env := by rfl) (hpl : (backTo pos (starEach es X.env)).any (·.1) = false := by rfl) : PE X (.Call (.Name x p) (a :: es) [] pos) ((tE X.K ca W) (eCall Γ i gs)) :=
  PE.imp (pe_callS Fn hr hg hm hk hb (fun σ => L2N.passAt tk σ) ha hdb he hpl) fun σ H Q ⟨w, env, e, s, m, h⟩ => by
    have hlen : ∀ ds S', gs env w.S = .ok ds S' → ds.length = n := fun ds S' q => hl _ _ _ _ q
    refine ⟨w, env, e, s, m, ?_⟩
    unfold eCall at h
    cases q : gs env w.S with
    | bad => rw [q] at h; exact h
    | err c v S1 => rw [q] at h; exact h
    | ok ds S1 =>
      rw [q] at h
      intro w1 hS x1 s1 vs r
      subst hS
      exact ⟨w1, ds, rfl, by rw [r.length, hlen _ _ q], s1, r, h.mono (fun d S z => QV.later x1 z) fun c v S z => Aft.later z x1⟩
theorem e_call0 {Γ : Calls} {i k : Nat} {fa : Addr} {fd : FuncData} {ps : List Str} {x : Str} {p : Pos} (Fn : FnOk X.prog X.w X.K X.mg X.base (L2N.CX X.prog X.w) k fa fd ps (spF X.K ca Γ i 0)) (hr : Room k X.A) (hg : Gl X x) (hm : X.mg x = some (.ref fa))
    (hk : PySem.W.keepIn X.K (.ref fa) = true) (hb : Binds X.K fd ps []) (tk : L2N.Takes X W) (hdb : (x == ("__debug__" : Str)) = false := by decide) : PE X (.Call (.Name x p) [] [] pos) ((tE X.K ca W) (eCall Γ i dNil)) := by
  refine ⟨fun pins s σ H Q I h => ?_⟩
  obtain ⟨w, env, e, sk, m, h⟩ := h
  refine wpAny_Call_Name_kw (ld_glob I hg hm ?_ hdb)
  refine PySem.W.callWith_K0 I.kIn hk (run_fnS (us := []) (vs := []) Fn hr hb (L2N.passAt tk σ) I .nil ?_)
  exact ⟨w, [], e, rfl, sk, .nil, h⟩
end

/-- a def of the text, by its body -/
theorem fn_body {P : Program} {w : World} {K : PySem.W.Frag} {ca : Nat → Addr} {mg : Str → Option Value} {base : Heap} {x qual : Str} {params : Arguments} {body : List Stmt} {scope : Scope} {dvs : List V} {kws : List (Str × V)} {f : Addr} {fd : FuncData} {N ps : List Str} {k i : Nat} {Γ' : Calls} {F : DenS}
    (Fd : FunD K x qual params body scope dvs kws f fd) (S : FnScope N ps scope) (hΓ : ∀ args St, args.length = ps.length → Γ' i args St = runBody F N.length args St)
    (hb : ∀ (cdv : Value) (A : Around) (outer : List PySem.Env) (s : Shared) (H : Hp) (E : XK), Room k (A.deeper (envOfC qual scope s.heap.objs.size f cdv)) →
      PSs (cxOf (L2N.CX P w) P w K mg base N qual scope f cdv A outer s H E) body (tS K ca (fun cls d _ H => E cls d H) F)) :
    FnOk P w K mg base (L2N.CX P w) (k + 1) f fd ps (spF K ca Γ' i ps.length) := by
  refine Fd.ok S (fun vs H Q E h => ?_) (fun cdv A outer s H vs Q E hr h => ?_)
  · obtain ⟨_, _, _, hl, _⟩ := h
    exact hl
  · obtain ⟨w0, ds, e, hl, sk, r, h⟩ := h
    refine ⟨tS K ca (fun cls d _ H => E cls d H) F, hb cdv A outer s H E hr, ?_⟩
    have hpl : ps.length ≤ N.length := by have := congrArg List.length S.pre; rw [List.length_take] at this; omega
    have hd : ds.length = ps.length := by rw [← r.length]; exact hl
    rw [hΓ ds w0.S hd] at h
    refine ⟨w0, ds.map some ++ List.replicate (N.length - ds.length) none, e, sk, ⟨?_, fun j d q => ?_⟩, ?_⟩
    · unfold L2.start
      rw [List.length_append, List.length_append, List.length_map, List.length_map, List.length_replicate, List.length_replicate, r.length]
    · unfold L2.start
      have hlen := r.length
      by_cases hj : j < ds.length
      · rw [List.getElem?_append_left (by simpa using hj), List.getElem?_map] at q
        cases z : ds[j]? with
        | none => rw [z] at q; cases q
        | some d' =>
          rw [z] at q
          have e2 : d' = d := by simpa using q
          subst e2
          obtain ⟨v, hv, rv⟩ := r.get z
          refine ⟨v, ?_, rv⟩
          rw [List.getElem?_append_left (by rw [List.length_map, hlen]; exact hj), List.getElem?_map, hv]
          rfl
      · rw [List.getElem?_append_right (by simpa using hj), List.getElem?_replicate] at q
        split at q <;> cases q
    · unfold runBody at h
      cases z : F (ds.map some ++ List.replicate (N.length - ds.length) none) w0.S with
      | next e1 S1 =>
        rw [z] at h
        exact fun w1 hS x1 s1 σ' m1 => h w1 hS x1 s1 .non .non
      | ret d S1 => rw [z] at h; exact h
      | err c v e1 S1 =>
        rw [z] at h
        exact fun w1 hS x1 s1 σ' cls dd m1 ex => h w1 hS x1 s1 cls dd ex
      | brk e1 S1 => rw [z] at h; exact h.elim
      | cont e1 S1 => rw [z] at h; exact h.elim
      | bad => rw [z] at h; exact h.elim
end Py

set_option maxHeartbeats 4000000
/-! PyE: exceptions: raised, caught and kept as data. -/
namespace Py
open PySem PySem.Spec PyProof.Rows L2

/-! ### an exception that has landed is tracked from then on -/
section
variable {X : Cx} {pins : List (Addr × Obj)} {σ : St} {H : Hp} {s : Shared}
theorem exk_ok {P : Program} {w : World} {H : Hp} {h : Heap} {a C d : Addr} {oe : Obj} {vs : Array Value} (he : h.get? a = some oe) (h1 : oe.cls = .ref C) (h2 : oe.dict = some d) (h3 : oe.data = .fields vs) (h4 : vs[2]? = some .none) : ObjOk P w H h a (exk a C d) :=
  ⟨⟨oe, vs, he, h1, h2, h3, h4⟩, ⟨oe, he⟩, fun g1 g2 z k => by
    obtain ⟨o, us, q, r⟩ := z
    exact ⟨o, us, k _ q, r⟩⟩
theorem _root_.L2.Inv.track {a C d : Addr} {oe : Obj} {vs : Array Value} (I : Inv X pins σ H s) (n0 : X.s_0.heap.get? a = none) (npin : ∀ p ∈ X.pn ++ pins, p.1 ≠ a) (he : s.heap.get? a = some oe) (h1 : oe.cls = .ref C) (h2 : oe.dict = some d) (h3 : oe.data = .fields vs) (h4 : vs[2]? = some .none)
    (na : H a = none) (nL : a ≠ X.env.locals) : Inv X pins σ (upd H a (exk a C d)) s where
  ok := I.ok
  os := I.os
  bare := I.bare
  base := {
    keep := fun b o e n hb hx => I.base.keep b o e n hb hx
    slot := fun b o e n hb hx => I.base.slot b o e n hb hx
    free := fun b o e n hx => by
      have hb : b ≠ a := fun z => by rw [z, n0] at e; cases e
      rw [upd_ne hb]
      exact I.base.free b o e n hx
    there := fun b o e hx => I.base.there b o e hx
    tups := fun b xs e => by
      have q := I.base.tups b xs e
      rw [upd_ne (ne_of_none q na)]; exact q
    frzs := fun b o xs e => by
      have q := I.base.frzs b o xs e
      rw [upd_ne (ne_of_none q na)]; exact q
    tbls := fun b ps e => by
      obtain ⟨more, q⟩ := I.base.tbls b ps e
      exact ⟨more, by rw [upd_ne (ne_of_none q na)]; exact q⟩ }
  loc := I.loc
  cell := I.cell
  free := by rw [upd_ne (Ne.symm nL)]; exact I.free
  freeC := fun x c e => by
    have hc : c ≠ a := fun z => by
      obtain ⟨v, o, ho, hd⟩ := I.cell x c e
      rw [z, he] at ho
      cases ho
      rw [h3] at hd
      cases hd
    rw [upd_ne hc]
    exact I.freeC x c e
  pin := fun p hp => by
    obtain ⟨e, n, ne, nf, dd⟩ := I.pin p hp
    exact ⟨e, by rw [upd_ne (npin p hp)]; exact n, ne, nf, dd⟩
  hok := fun b u e => by
    by_cases hb : b = a
    · subst hb
      rw [upd_same] at e
      cases e
      exact exk_ok he h1 h2 h3 h4
    · rw [upd_ne hb] at e
      exact (I.hok b u e).stay (fun c v _ q => q) (fun c q => by rw [upd_ne (ne_of_none q na)]; exact q) fun c xs q => by rw [upd_ne (ne_of_none q na)]; exact q
  len := I.len
theorem _root_.L2.Inv.toSuite (I : Inv X pins σ H s) (a : Addr) : Inv (X.suite a (X.pn ++ pins)) [] σ H s :=
  ⟨I.ok.suite _ _, I.os, I.bare, I.base, I.loc, I.cell, I.free, I.freeC, fun p hp => I.pin p (by rw [List.append_nil] at hp; exact hp), I.hok, I.len⟩
theorem _root_.L2.Inv.ofSuite {a : Addr} {pn' : List (Addr × Obj)} (I : Inv (X.suite a (X.pn ++ pins)) pn' σ H s) (ok : X.Ok) : Inv X pins σ H s :=
  ⟨ok, I.os, I.bare, I.base, I.loc, I.cell, I.free, I.freeC, fun p hp => I.pin p (List.mem_append_left _ hp), I.hok, I.len⟩
end

/-- a slot that may be none -/
def putO {α : Type} (i : Option Nat) (x : Option α) (l : List (Option α)) : List (Option α) := match i with | some i => l.set i x | none => l
/-- what a clause wishes of an exception of the body: it is an object of its own from then on; i: the slot of the clause's name -/
def wTrk (K : PySem.W.Frag) (c : Value) (i : Option Nat) (ts : TS) (Wout : WX) (U : Ends) : WX := fun cls dd σ H =>
  ∃ b, PySem.W.exmOne K cls c = some b ∧ (b = true → ∃ C d, cls = .ref C ∧ dd = some d ∧ ∀ a, H a = none →
      ts { nx := fun σ' H' => U.nx (putO i none σ') H', rt := U.rt, bk := fun σ' H' => U.bk (putO i none σ') H', ct := fun σ' H' => U.ct (putO i none σ') H' }
        (putO i (some (.ref a)) σ) (upd H a (exk a C d))) ∧
    (b = false → Wout cls dd σ H)
section
variable {X : Cx} {x : Str} {c : Value} {body suite : List Stmt} {b₀ : Stmt} {np pos pos' : Pos} {tb : WX → TS} {ts : TS} {Wout : WX}
/-- try: body / except x [as n]: suite -/
theorem ps_try_trk {nm : Option Str} {i : Option Nat} (hex : X.ex = []) (hs : X.stack = X.env :: X.outer) (hf : X.env.frame = some X.env.locals) (hN : X.N.Nodup)
    (hn : match nm, i with | some n, some i => X.N[i]? = some n ∧ X.env.kindOf n = some .local | none, none => True | _, _ => False) (hc : Names X x c) (tk : L2N.Takes X Wout)
    (hb : ∀ (W : WX) (pn : List (Addr × Obj)) (xe : Value → Shared → Prop), L2N.Takes (X.tr pn xe) W → PassesOwn (model X.prog X.w) X.A X.env xe → PSs (X.tr pn xe) body (tb W))
    (hsu : ∀ (a : Addr) (pn : List (Addr × Obj)), PSs (X.suite a pn) (b₀ :: suite) ts) :
    PS X (.Try body [.ExceptHandler (some (.Name x np)) nm (b₀ :: suite) pos'] [] [] pos) (fun U σ H => tb (wTrk X.K c i ts Wout U) U σ H) := by
  refine ⟨fun pins s σ H U I h => ?_⟩
  have ok := I.ok
  have hfr : X.A.frames = some (X.env :: X.outer) := by rw [ok.frames, hs]
  refine wpAny_Try_except ?_
  let xe2 : Value → Shared → Prop := fun e s₁ => wpAny (model X.prog X.w) X.A (noteFrame e X.env) (fun _ s₂ => wpAny (model X.prog X.w) X.A (setFlight e none) (fun _ s₃ =>
    wpAny (model X.prog X.w) X.A (handleBy e X.env [.ExceptHandler (some (.Name x np)) nm (b₀ :: suite) pos']) (SP X pins U) X.xe s₃) X.xe s₂) X.xe s₁
  have caught : L2N.Takes (X.tr (X.pn ++ pins) xe2) (wTrk X.K c i ts Wout U) := by
    intro u s' xx
    obtain ⟨a, B, sI, pins', σ1, H1, cls, dd, rfl, J', nb, up, sky, na, os, ag, b, hb1, hyes, hno⟩ := xx
    have J : Inv X pins σ1 H1 sI := J'.ofTry ok
    have sky' : Sky B (X.env :: X.outer) a (L2N.Zn cls dd) X.env.locals s'.heap := by rw [← hs]; exact sky
    show wpAny (model X.prog X.w) X.A (noteFrame (.ref a) X.env) _ _ _
    -- the ground does not have it
    have nB : B.get? a = none := by
      rcases sky' with ⟨_, q, _⟩ | q | q
      · exact q
      · exact q.2.1
      · exact q.2.1
    refine L2N.Sky.land L2N.Zn.steady hfr hf sky' fun h3 fl3 up3 => ?_
    have J3 : Inv X pins σ1 H1 { s' with heap := h3 } := J.landed nb fl3.1 (up.trans up3) os ag
    obtain ⟨oe3, vs3, he3, hz3, hd3⟩ := fl3.there
    have out : ∀ {h : Heap} {o : Obj} {vs : Array Value}, h.FunFrames B (X.env :: X.outer) → h.get? a = some o → o.data = .fields vs → a ∉ frs (X.env :: X.outer) := fun ff e dt hm => by
      obtain ⟨_, o', e', hnf⟩ := ff.mem hm
      rw [e] at e'; cases e'
      exact hnf _ dt
    have nfr := out fl3.2.2.1 he3 hd3
    have nL : a ≠ X.env.locals := fun z => nfr (List.mem_filterMap.mpr ⟨X.env, List.mem_cons_self, by rw [hf, z]⟩)
    have nI : sI.heap.get? a = none := by
      cases q : sI.heap.get? a with
      | none => rfl
      | some o =>
        have z := nb a o q (by rw [hs]; exact nfr)
        rw [nB] at z; cases z
    have n0 : X.s_0.heap.get? a = none := by
      cases q : X.s_0.heap.get? a with
      | none => rfl
      | some o =>
        obtain ⟨o', z⟩ := J.base.there a o q (by rw [hex]; simp)
        rw [nI] at z; cases z
    have npin : ∀ p ∈ X.pn ++ pins, p.1 ≠ a := fun p hp z => by
      have q := (J.pin p hp).1
      rw [z, nI] at q; cases q
    refine wpAny_handleBy_cons (codeAny_handlers_test ?_) (by intro q; cases q)
    have LT : PySem.W.Looks (model X.prog X.w) h3 (typeOf (.ref a)) cls := fun A Q E s k q => wpAny_typeOf_ref (k _ _ he3) (by rw [hz3.1]; exact q)
    have LM := PySem.W.exm_one (M := model X.prog X.w) (J3.kIn) LT hb1
    have S3 := J3.toSuite a
    have test : ∀ {Q : Value → Shared → Prop} {E : Value → Shared → Prop}, Q c { s' with heap := h3 } → wpAny (model X.prog X.w) (X.A.mark (some (.ref a))) (eval (.Name x np) X.env) Q E { s' with heap := h3 } := fun {Q E} q => by
      obtain ⟨hg, hdbg, hm | ⟨hm, hv, hnn⟩⟩ := hc
      · exact ld_glob (X := X.suite a (X.pn ++ pins)) S3 hg hm q hdbg
      · exact ld_blt (X := X.suite a (X.pn ++ pins)) S3 hg hm hv q hnn hdbg
    refine test (LM.here ?_)
    cases b with
    | true =>
      obtain ⟨C, d, rfl, rfl, hy⟩ := hyes rfl
      cases nm with
      | none =>
        cases i with
        | some i => exact hn.elim
        | none =>
          refine codeAny_handlers_suite ?_
          refine HandSPX.lands_againZ fl3 fun h4 fl4 up4 => ?_
          have J4 : Inv X pins σ1 H1 { s' with heap := h4 } := J.landed nb fl4.1 ((up.trans up3).trans up4) os ag
          obtain ⟨oe4, vs4, he4, hz4, hd4⟩ := fl4.there
          have T4 := (J4.track n0 npin he4 hz4.1 hz4.2.1 hd4 (hz4.2.2 _ hd4) na nL).toSuite a
          refine wpAny_mono ((hsu a (X.pn ++ pins)).run [] _ _ _ _ T4 (hy a na)) (fun fl s6 hsp => ?_) (fun _ _ z => False.elim z)
          cases fl with
          | next =>
            obtain ⟨σ6, H6, S6, q6⟩ := hsp
            exact ⟨_, _, S6.ofSuite ok, q6⟩
          | brk =>
            obtain ⟨σ6, H6, S6, q6⟩ := hsp
            exact ⟨_, _, S6.ofSuite ok, q6⟩
          | cont =>
            obtain ⟨σ6, H6, S6, q6⟩ := hsp
            exact ⟨_, _, S6.ofSuite ok, q6⟩
          | ret u =>
            obtain ⟨v6, σ6, H6, S6, r6, q6⟩ := hsp
            exact ⟨_, _, _, S6.ofSuite ok, r6, q6⟩
      | some n =>
        cases i with
        | none => exact hn.elim
        | some i =>
          obtain ⟨hi, hln⟩ := hn
          refine codeAny_handlers_suite_as ?_
          refine HandSPX.lands_againZ fl3 fun h4 fl4 up4 => ?_
          have J4 : Inv X pins σ1 H1 { s' with heap := h4 } := J.landed nb fl4.1 ((up.trans up3).trans up4) os ag
          obtain ⟨oe4, vs4, he4, hz4, hd4⟩ := fl4.there
          have T4 := (J4.track n0 npin he4 hz4.1 hz4.2.1 hd4 (hz4.2.2 _ hd4) na nL).toSuite a
          refine store_ok (X := X.suite a (X.pn ++ pins)) (v := .ref a) T4 hN hi (.inl hln) rfl (fun s5 S5 => ?_) (.inr hln)
          refine wpAny_mono ((hsu a (X.pn ++ pins)).run [] s5 _ _ _ S5 (hy a na)) (fun fl s6 hsp => ?_) (fun _ _ z => False.elim z)
          have fin : ∀ {σ6 : St} {H6 : Hp} {Q : Shared → Prop}, Inv (X.suite a (X.pn ++ pins)) [] σ6 H6 s6 → (∀ s7, Inv X pins (σ6.set i none) H6 s7 → Q s7) →
              wpAny (model X.prog X.w) X.A (do bindName X.env n .none; unbindBehindTheSuite X.env n pos') (fun _ s7 => Q s7) X.xe s6 := fun {σ6 H6 Q} S6 hq => gone_ok (S6.ofSuite ok) hN hi hln hq
          cases fl with
          | next =>
            obtain ⟨σ6, H6, S6, q6⟩ := hsp
            exact fin S6 fun s7 J7 => ⟨_, _, J7, q6⟩
          | brk =>
            obtain ⟨σ6, H6, S6, q6⟩ := hsp
            exact fin S6 fun s7 J7 => ⟨_, _, J7, q6⟩
          | cont =>
            obtain ⟨σ6, H6, S6, q6⟩ := hsp
            exact fin S6 fun s7 J7 => ⟨_, _, J7, q6⟩
          | ret u =>
            obtain ⟨v6, σ6, H6, S6, r6, q6⟩ := hsp
            exact fin S6 fun s7 J7 => ⟨_, _, _, J7, r6, q6⟩
    | false =>
      show wpAny _ X.A (handleBy (.ref a) X.env []) _ _ _
      refine wpAny_handleBy_nil ?_
      obtain ⟨k1, k2, k3, oe, vs, T, oT, ts', he, hz, hd, h1, hr⟩ := id fl3
      unfold PySem.passOn
      refine wpAny_bind (wpAny_field he hd h1 ?_)
      rw [if_neg (show ¬ ((Value.ref T == Value.none) = true) from by simp)]
      have on : wpAny (model X.prog X.w) X.A (setFlight (.ref a) X.env.frame) (fun _ s4 => wpAny (model X.prog X.w) X.A (throw (.ref a) : Sem Flow) (SP X pins U) X.xe s4) X.xe { s' with heap := h3 } := by
        rw [hf]
        refine HandSPX.setFlight_upZ fl3 fun h4 hh4 up4 => wpAny_throw (tk _ _ ?_)
        exact ⟨a, B, sI, pins, σ1, H1, cls, dd, rfl, J, nb, (up.trans up3).trans up4, .inr (.inr (by rw [hs]; exact hh4)), na, os, ag, hno rfl⟩
      first
        | exact wpAny_bind (wpAny_pure (wpAny_bind on))
        | exact wpAny_bind on
  refine wpAny_mono ((hb _ (X.pn ++ pins) xe2 caught PassesOwn.looking).run [] s σ H U (I.toTry _) h) (fun fl s1 hsp => ?_) (fun e s1 he => he)
  cases fl with
  | next =>
    obtain ⟨σ1, H1, J1, q⟩ := hsp
    exact wpAny_execs_nil ⟨σ1, H1, J1.ofTry ok, q⟩
  | brk =>
    obtain ⟨σ1, H1, J1, q⟩ := hsp
    exact ⟨σ1, H1, J1.ofTry ok, q⟩
  | cont =>
    obtain ⟨σ1, H1, J1, q⟩ := hsp
    exact ⟨σ1, H1, J1.ofTry ok, q⟩
  | ret u =>
    obtain ⟨v, σ1, H1, J1, r, q⟩ := hsp
    exact ⟨v, σ1, H1, J1.ofTry ok, r, q⟩
end

/-- try: F / except (a class that takes c where m c) [as the slot i]: G -/
def sTry (m : Nat → Option Bool) (i : Option Nat) (F G : DenS) : DenS := fun e S => match F e S with
  | .err c v e1 S1 => (match m c with
    | some true => (match G (putO i (some (.exc c v)) e1) S1 with
      | .next e2 S2 => .next (putO i none e2) S2
      | .brk e2 S2 => .brk (putO i none e2) S2
      | .cont e2 S2 => .cont (putO i none e2) S2
      | .ret d S2 => .ret d S2
      | _ => .bad)
    | some false => .err c v e1 S1
    | none => .bad)
  | r => r
section
variable {K : PySem.W.Frag} {ca : Nat → Addr}
theorem Sim.unset {w : Wd} {env : Env} {σ : St} (h : Sim K ca w env σ) (i : Nat) : Sim K ca w (env.set i none) (σ.set i none) := by
  refine ⟨by simp [h.1], fun j x q => ?_⟩
  by_cases hj : i = j
  · subst hj
    by_cases hl : i < env.length
    · rw [List.getElem?_set_self hl] at q; cases q
    · rw [List.getElem?_eq_none (by simpa using hl)] at q; cases q
  · rw [List.getElem?_set_ne hj] at q
    obtain ⟨u, a, b⟩ := h.2 j x q
    exact ⟨u, by rw [List.getElem?_set_ne hj]; exact a, b⟩
end
section
variable {X : Cx} {ca : Nat → Addr} {W : WX} {x : Str} {c : Value} {body suite : List Stmt} {b₀ : Stmt} {np pos pos' : Pos} {F G : DenS}
theorem s_try {nm : Option Str} {i : Option Nat} {m : Nat → Option Bool} (hm : ∀ k b, m k = some b → PySem.W.exmOne X.K (.ref (ca k)) c = some b) (hex : X.ex = []) (hs : X.stack = X.env :: X.outer) (hf : X.env.frame = some X.env.locals) (hN : X.N.Nodup)
    (hn : match nm, i with | some n, some i => X.N[i]? = some n ∧ X.env.kindOf n = some .local | none, none => True | _, _ => False) (hc : Names X x c) (tk : L2N.Takes X W)
    (hb : ∀ (W : WX) (pn : List (Addr × Obj)) (xe : Value → Shared → Prop), L2N.Takes (X.tr pn xe) W → PassesOwn (model X.prog X.w) X.A X.env xe → PSs (X.tr pn xe) body (tS X.K ca W F))
    (hsu : ∀ (a : Addr) (pn : List (Addr × Obj)), PSs (X.suite a pn) (b₀ :: suite) (tS X.K ca (fun _ _ _ _ => False) G)) :
    PS X (.Try body [.ExceptHandler (some (.Name x np)) nm (b₀ :: suite) pos'] [] [] pos) (tS X.K ca W (sTry m i F G)) :=
  PS.imp (ps_try_trk (i := i) (Wout := W) hex hs hf hN hn hc tk (fun W pn xe => hb W pn xe) hsu) fun U σ H ⟨w, env, e, s, mm, h⟩ => by
    refine ⟨w, env, e, s, mm, ?_⟩
    unfold sTry at h
    cases q : F env w.S with
    | next e1 S1 => rw [q] at h; exact h
    | brk e1 S1 => rw [q] at h; exact h
    | cont e1 S1 => rw [q] at h; exact h
    | ret d S1 => rw [q] at h; exact h
    | bad => rw [q] at h; exact h
    | err k v e1 S1 =>
      rw [q] at h
      dsimp only at h
      intro w1 hS x1 s1 σ1 cls dd m1 ex
      subst hS
      obtain ⟨rfl, d, vv, rfl, hd, nM, rv⟩ := ex
      cases hmk : m k with
      | none => rw [hmk] at h; exact h.elim
      | some b =>
        rw [hmk] at h
        refine ⟨b, hm k b hmk, fun hb => ⟨ca k, d, rfl, rfl, fun a ha => ?_⟩, fun hb => ?_⟩
        · subst hb
          dsimp only at h
          have x2 := Ext.alloc (w := w1) (o := exk a (ca k) d) ha
          have s2 := s1.alloc (X := X) (o := exk a (ca k) d) ha
          have re : Rep X.K ca ⟨upd w1.H a (exk a (ca k) d), w1.ρ, w1.S⟩ (.ref a) (.exc k v) := by
            refine .exc (d := d) upd_same (x2.keep _ _ hd nM) ?_ (x2.notM hd nM) (rv.mono x2 s1)
            exact fun z => s1.notM0 ha z
          have ha0 : ∀ (i : Option Nat), Sim X.K ca ⟨upd w1.H a (exk a (ca k) d), w1.ρ, w1.S⟩ (putO i (some (.exc k v)) e1) (putO i (some (.ref a)) σ1) := fun i => by
            cases i with
            | none => exact m1.mono x2 s1
            | some i => exact (m1.mono x2 s1).set i re
          refine ⟨_, _, rfl, s2, ha0 i, ?_⟩
          have fin : ∀ {e2 : Env} {σ2 : St} {w2 : Wd}, Sim X.K ca w2 e2 σ2 → Sim X.K ca w2 (putO i none e2) (putO i none σ2) := fun {e2 σ2 w2} z => by
            cases i with
            | none => exact z
            | some i => exact z.unset i
          cases zg : G (putO i (some (.exc k v)) e1) w1.S with
          | next e2 S2 =>
            rw [zg] at h
            intro w3 hS x3 s3 σ3 m3
            exact h w3 hS (x1.trans (x2.trans x3)) s3 _ (fin m3)
          | brk e2 S2 =>
            rw [zg] at h
            intro w3 hS x3 s3 σ3 m3
            exact h w3 hS (x1.trans (x2.trans x3)) s3 _ (fin m3)
          | cont e2 S2 =>
            rw [zg] at h
            intro w3 hS x3 s3 σ3 m3
            exact h w3 hS (x1.trans (x2.trans x3)) s3 _ (fin m3)
          | ret d2 S2 =>
            rw [zg] at h
            intro w3 hS x3 s3 v3 r3
            exact h w3 hS (x1.trans (x2.trans x3)) s3 _ r3
          | err c2 v2 e2 S2 => rw [zg] at h; exact h.elim
          | bad => rw [zg] at h; exact h.elim
        · subst hb
          exact h w1 rfl x1 s1 σ1 _ _ m1 ⟨rfl, d, vv, rfl, hd, nM, rv⟩
end

/-! ### raise C(e), C's own __init__ that of the base of all: ValueError.__init__(self, value); self.value = value -/
def spInit (K : PySem.W.Frag) : Sp := fun vs H Q _ => ∃ (a C : Addr) (v : V), vs = [.ref a, v] ∧ OexC K C ∧ H a = some (exo a C none) ∧ PySem.W.findIn K (.ref C) "value" = some none ∧
  ∀ d, H d = none → d ≠ a → Q .non (upd (upd H d (exd d [("value", v)])) a (exo a C (some d)))
/-- what the written part says of a class of errors; fI: where its __init__ stands -/
structure ExcT (K : PySem.W.Frag) (C fI : Addr) : Prop where
  oex : OexC K C
  init : PySem.W.findIn K (.ref C) "__init__" = some (some (.ref fI))
  noval : PySem.W.findIn K (.ref C) "value" = some none
theorem passN {X : Cx} : Passes (L2N.CX X.prog X.w) X (fun _ _ _ => False) := fun _ _ _ _ _ _ _ c => by
  obtain ⟨_, _, _, _, _, _, _, _, _, _, _, _, z⟩ := c
  exact z.elim
section
open PySem.HandSPX
variable {X : Cx} {x : Str} {p pos : Pos} {e : Expr} {es : List Expr} {k : Nat} {fI C : Addr} {fd : FuncData} {ps : List Str} {sp : Sp} {ta : TA}
/-- the new exception: of values in their places; its context is None -/
theorem pmk_posN (T : OexC X.K C) (iC : PySem.W.findIn X.K (.ref C) "__init__" = some (some (.ref fI))) (tI : PySem.W.typeIn X.K (.ref fI) = some (.type "function"))
    (F1 : FnOk X.prog X.w X.K X.mg X.base (L2N.CX X.prog X.w) k fI fd ps sp) (hr : Room (k + 1) X.A) (hb : Binds X.K fd ps [])
    (hx : Passes (L2N.CX X.prog X.w) X (fun _ _ _ => False)) (hg : Gl X x) (hm : X.mg x = some (.ref C)) (ha : PA X (e :: es) ta)
    (hdb : (x == ("__debug__" : Str)) = false := by decide) (he : starEach (e :: es) X.env = (false, eval e X.env) :: starEach es X.env := by rfl)
    (hpl : (backTo pos (starEach es X.env)).any (·.1) = false := by rfl) :
    L2N.PMk X (.Call (.Name x p) (e :: es) [] pos) (tMkO C sp [] ta) := by
  intro pins s σ H Q I h
  obtain ⟨nm, q, N, bs, bm, sn, sub, ab, col, dd, k0, k1, k2, k3, k5, hC, hbm⟩ := T.cls
  refine wpAny_Call_Name_kw (ld_glob I hg hm ?_ hdb)
  refine PySem.W.callWith_K (h₀ := X.base) I.ok.mod.kin T.kC ?_ he hpl
  refine thn (ha.run pos pins s σ H _ I h) fun us s1 ⟨vs, H1, I1, r1, hz, q1⟩ => ⟨I1.kIn, ?_⟩
  show wpAny _ _ (call (.ref C) us) _ _ _
  obtain ⟨hp, g, dr, tk, os⟩ := s1
  have hsz : hp.objs.size ≤ hp.objs.size + 1 := Nat.le_succ _
  have hq := q1 (hp.objs.size + 1) (I1.hok.fresh hsz)
  rw [List.append_nil] at hq
  have kk : ∀ b o, hp.get? b = some o → ((hp.push (PySem.W.kdv_tup us)).push (excO C hp.objs.size)).get? b = some o := fun b o e =>
    Heap.get?_push_of_some _ (Heap.get?_push_of_some _ e)
  have hget : ((hp.push (PySem.W.kdv_tup us)).push (excO C hp.objs.size)).get? (hp.objs.size + 1) = some (excO C hp.objs.size) := by
    heap_get
  have I2 : Inv X pins σ (upd H1 (hp.objs.size + 1) (exo (hp.objs.size + 1) C none)) ⟨(hp.push (PySem.W.kdv_tup us)).push (excO C hp.objs.size), g, dr, tk, os⟩ :=
    I1.laid (o := exo (hp.objs.size + 1) C none) (a := hp.objs.size + 1) (t' := tk) (h' := (hp.push (PySem.W.kdv_tup us)).push (excO C hp.objs.size)) kk hsz (exo_ok hget)
  have r2 : Vals (V.ref (hp.objs.size + 1) :: vs) (Value.ref (hp.objs.size + 1) :: us) := .cons rfl r1
  have hl : (Value.ref (hp.objs.size + 1) :: us).length = ps.length := by
    have e := r2.length
    rw [F1.len _ _ _ _ hq] at e
    exact e.symm
  have hus : us.length ≤ sizeLine := by
    have : sizeLine = 16777216 := by decide
    rw [← r1.length, this]
    omega
  have b := hb ⟨(hp.push (PySem.W.kdv_tup us)).push (excO C hp.objs.size), g, dr, tk, os⟩ (Value.ref (hp.objs.size + 1) :: us) I2.kIn (by rw [List.append_nil]; exact hl)
  rw [List.append_nil] at b
  refine wpAny_call (PySem.HandSPX.call_own F.excBase_ValueError (fun Y => refsVE_contains Y bm hbm) (I1.kIn _ _ hC) (PySem.W.looks_findIn I1.kIn iC) (fun self => PySem.W.bind_fn I1.kIn self tI) hus
    (codeAny_mono (F1.run _ X.stack _ _ ⟨Value.ref (hp.objs.size + 1) :: us, []⟩ (Value.ref (hp.objs.size + 1) :: us) _ _ (fun _ _ _ => False) (hr.make C us []) (I2.env0.make C us []) b r2 hq) fun r s' hq' => ?_))
  cases r with
  | error er => exact hx pins σ _ _ er s' I2 hq'
  | ok fl =>
    cases fl with
    | ret u =>
      obtain ⟨v, H2, os2, bare2, un2, hok2, rv, ev, d, fs, ea, ed, hd1, q2⟩ := hq'
      subst ev
      obtain ⟨h2, g2, d2, t2, os'⟩ := s'
      refine ⟨rv, ?_⟩
      obtain ⟨t0, G, J, kG, ge, hoe, na⟩ := mk_end0 (d2 := d2) (t2 := t2) I1 hsz kk un2 hok2 os2 bare2 ea ed hd1
      exact ⟨_, _, _, ⟨G, g2, d2, t2, os'⟩, _, .ref C, some d, rfl, J, kG, ge, hoe, ⟨rfl, rfl, fun vs e => by cases e; rfl⟩, rfl, rfl, na, rfl, bare2, raises_own T.exC T.tyC, q2⟩
    | next => exact hq'.elim
    | brk => exact hq'.elim
    | cont => exact hq'.elim
end
section
variable {X : Cx} {ca : Nat → Addr} {W : WX} {x : Str} {p pos pos2 : Pos} {f : Den} {a : Expr}
theorem s_raise {c k : Nat} {fI : Addr} {fd : FuncData} {ps : List Str} (hc : X.calm = true) (tk : L2N.Takes X W) (T : ExcT X.K (ca c) fI) (tI : PySem.W.typeIn X.K (.ref fI) = some (.type "function")) (F1 : FnOk X.prog X.w X.K X.mg X.base (L2N.CX X.prog X.w) k fI fd ps (spInit X.K))
    (hr : Room (k + 1) X.A) (hb : Binds X.K fd ps []) (hg : Gl X x) (hm : X.mg x = some (.ref (ca c))) (ha : PE X a (tE X.K ca W f)) (hdb : (x == ("__debug__" : Str)) = false := by decide)
    (he : starEach (a :: []) X.env = (false, eval a X.env) :: starEach [] X.env := by rfl) (hpl : (backTo pos (starEach [] X.env)).any (·.1) = false := by rfl) :
    PS X (.Raise (some (.Call (.Name x p) [a] [] pos)) none pos2) (tS X.K ca W (sRaise c f)) :=
  PS.imp (L2N.ps_raise hc tk (pmk_posN T.oex T.init tI F1 hr hb passN hg hm (pa_cons ha pa_nil he) hdb he hpl)) fun U σ H ⟨w, env, e, s, m, h⟩ =>
    tE_then (k := fun d S1 => RS.err c d env S1) e s m h fun w1 d v s1 m1 r x1 q => by
      refine ⟨(by show 1 ≤ 1000; decide), fun a ha => ?_⟩
      refine ⟨a, ca c, v, rfl, T.oex, upd_same, T.noval, fun d0 hd0 hne => ?_⟩
      rw [upd_ne hne] at hd0
      refine ⟨rfl, d0, [("value", v)], upd_same, ?_, hd0, ?_⟩
      · rw [upd_ne hne]; exact upd_same
      · have eH : upd (del (upd (upd (upd w1.H a (exo a (ca c) none)) d0 (exd d0 [("value", v)])) a (exo a (ca c) (some d0))) a) d0 (.xd [("value", v)]) = upd w1.H d0 (.xd [("value", v)]) := by
          funext b
          by_cases hb : b = d0
          · subst hb; rw [upd_same, upd_same]
          · rw [upd_ne hb, upd_ne hb]
            by_cases hba : b = a
            · subst hba; rw [del_same, ha]
            · rw [del_ne hba, upd_ne hba, upd_ne hb, upd_ne hba]
        rw [eH]
        have x2 := Ext.alloc (w := w1) (o := .xd [("value", v)]) hd0
        have s2 := s1.alloc (X := X) (o := .xd [("value", v)]) hd0
        exact q ⟨upd w1.H d0 (.xd [("value", v)]), w1.ρ, w1.S⟩ rfl x2 s2 σ _ _ (m1.mono x2 s1) ⟨rfl, d0, v, rfl, upd_same, fun z => s1.notM0 hd0 z, r.mono x2 s1⟩
end

/-! ### the base's __init__ keeps its promise -/
theorem init_ok {P : Program} {w : World} {K : PySem.W.Frag} {mg : Str → Option Value} {base : Heap} {qual : Str} {params : Arguments} {scope : Scope} {kws : List (Str × V)} {f : Addr} {fd : FuncData} {p1 p2 p3 p4 p5 p6 p7 p8 p9 p10 : Pos}
    (Fd : FunD K "__init__" qual params [.Expr (.Call (.Attribute (.Name "ValueError" p1) "__init__" p2) [.Name "self" p3, .Name "value" p4] [] p5) p6, .Assign [.Attribute (.Name "self" p7) "value" p8] (.Name "value" p9) p10] scope [] kws f fd)
    (S : FnScope ["self", "value"] ["self", "value"] scope) (hn1 : scope.names.lookup ("self" : Str) = some .local) (hn2 : scope.names.lookup ("value" : Str) = some .local) (hg : ∀ env : PySem.Env, env.scope = scope → env.kindOf "ValueError" = some .globalImplicit)
    (hc : ∀ env : PySem.Env, ∃ pl, eval (.Call (.Attribute (.Name "ValueError" p1) "__init__" p2) [.Name "self" p3, .Name "value" p4] [] p5) env = (do
      let ov ← eval (.Name "ValueError" p1) env
      standAt p2.atName
      let (f, first) ← holding [ov] (getMethod ov "__init__" pl)
      callWith p5 f first (backTo p5 (starEach [.Name "self" p3, .Name "value" p4] env)) (backToKw p5 (keywordEach [] env))))
    (hm : mg "ValueError" = none) (vV : PySem.W.findCls K (.type "ValueError") (.type "type") "__init__" = some (.val (.builtin "ValueError.__init__"))) :
    FnOk P w K mg base (L2N.CX P w) 1 f fd ["self", "value"] (spInit K) := by
  refine Fd.ok S (fun vs H Q E h => ?_) (fun cdv A outer s H vs Q E hr h => ?_)
  · obtain ⟨a, C, v, rfl, _⟩ := h
    rfl
  · have v0 : ∀ {pp : Pos}, PE (cxOf (L2N.CX P w) P w K mg base ["self", "value"] qual scope f cdv A outer s H E) (.Name "self" pp) (tVar 0) := fun {pp} => pe_var rfl (.inl hn1)
    have v1 : ∀ {pp : Pos}, PE (cxOf (L2N.CX P w) P w K mg base ["self", "value"] qual scope f cdv A outer s H E) (.Name "value" pp) (tVar 1) := fun {pp} => pe_var rfl (.inl hn2)
    obtain ⟨pl, hc⟩ := hc (cxOf (L2N.CX P w) P w K mg base ["self", "value"] qual scope f cdv A outer s H E).env
    refine ⟨_, pss_cons (ps_expr (pe_veinit (pl := pl) (hg _ rfl) hm vV (pa_cons v0 (pa_cons v1 pa_nil)) hc)) (pss_one (ps_ost v0 v1)), ?_⟩
    obtain ⟨a, C, v, rfl, T, ha, hv, q⟩ := h
    refine ⟨_, rfl, _, rfl, a, C, [v], rfl, (by show 1 ≤ 1000; decide), T, ha, ?_⟩
    exact ⟨_, rfl, _, rfl, a, C, rfl, T, hv, .inl ⟨ha, fun dx h1 h2 => q dx h1 h2⟩⟩
end Py

set_option maxHeartbeats 4000000
/-! PyF: built-in functions, places, slices, what changes lists. -/
namespace Py
open PySem PySem.Spec PyProof.Rows L2

section
variable {X : Cx} {ca : Nat → Addr} {W : WX} {pos p : Pos} {f g h : Den} {gs hs : Dens} {a b e : Expr} {es : List Expr}

/-! ### calls of built-in functions -/
theorem fn_imp {o : OpN} (n : MuteN o) {σ : St} {H : Hp} {Q : VK} (h : tE X.K ca W (eFn o gs) σ H Q) : tCB (rON X.K ca o) (tEs X.K ca W gs) σ H Q := by
  obtain ⟨w, env, e, s, m, h⟩ := h
  refine tEs_bind (Qb := fun w => QV X.K ca w Q) e s m h (fun e q => QV.later e q) fun w1 ds vs s1 m1 r e1 h1 => ?_
  exact ⟨w1, ds, rfl, s1, r, h1.noErr (n _ _)⟩
theorem e_fnB {o : OpN} {id : String} {x : Str} (hc : CallR X (.builtin id) (rON X.K ca o)) (n : MuteN o) (hg : Gl X x) (hm : X.mg x = none) (hv : bootBuiltins x = some (.builtin id)) (ha : PA X (e :: es) (tEs X.K ca W gs)) (hn : x ≠ "__name__" := by decide) (hdb : (x == ("__debug__" : Str)) = false := by decide)
    (he : starEach (e :: es) X.env = (false, eval e X.env) :: starEach es X.env := by rfl) (hpl : (backTo pos (starEach es X.env)).any (·.1) = false := by rfl) : PE X (.Call (.Name x p) (e :: es) [] pos) (tE X.K ca W (eFn o gs)) :=
  PE.imp (pe_callB hc hg hm hv ha hn hdb he hpl) fun _ _ _ h => fn_imp n h
theorem e_fnT {o : OpN} {T : String} {x : Str} (hc : CallR X (.type T) (rON X.K ca o)) (n : MuteN o) (hg : Gl X x) (hm : X.mg x = none) (hv : bootBuiltins x = some (.type T)) (ha : PA X (e :: es) (tEs X.K ca W gs)) (hn : x ≠ "__name__" := by decide) (hdb : (x == ("__debug__" : Str)) = false := by decide)
    (he : starEach (e :: es) X.env = (false, eval e X.env) :: starEach es X.env := by rfl) (hpl : (backTo pos (starEach es X.env)).any (·.1) = false := by rfl) : PE X (.Call (.Name x p) (e :: es) [] pos) (tE X.K ca W (eFn o gs)) :=
  PE.imp (pe_callTy hc hg hm hv ha hn hdb he hpl) fun _ _ _ h => fn_imp n h
theorem e_fnM {o : OpN} {id : String} {x : Str} (hc : CallR X (.builtin id) (rON X.K ca o)) (n : MuteN o) (hg : Gl X x) (hm : X.mg x = some (.builtin id)) (ha : PA X (e :: es) (tEs X.K ca W gs)) (hdb : (x == ("__debug__" : Str)) = false := by decide)
    (he : starEach (e :: es) X.env = (false, eval e X.env) :: starEach es X.env := by rfl) (hpl : (backTo pos (starEach es X.env)).any (·.1) = false := by rfl) : PE X (.Call (.Name x p) (e :: es) [] pos) (tE X.K ca W (eFn o gs)) :=
  PE.imp (pe_callBfun hc hg hm ha hdb he hpl) fun _ _ _ h => fn_imp n h
end
/-- a built-in function that gives a fresh list -/
abbrev OpF := List D → Store → R (List D)
def dFn (o : OpF) (g : Dens) : Dens := fun e S => (g e S).bind fun as S1 => o as S1
def MuteF (o : OpF) : Prop := ∀ a S c v S', o a S ≠ .err c v S'
def rOF (K : PySem.W.Frag) (ca : Nat → Addr) (o : OpF) : List V → Hp → VK → Prop := fun xs H Q => ∃ w ds, w.H = H ∧ SOk K ca w ∧ RepL K ca w xs ds ∧ Sat (o ds w.S) (QF K ca w Q) fun _ _ _ => False
section
variable {X : Cx} {ca : Nat → Addr} {W : WX} {pos p : Pos} {f g h : Den} {gs hs : Dens} {a b e : Expr} {es : List Expr}
theorem fF_imp {o : OpF} (n : MuteF o) {σ : St} {H : Hp} {Q : VK} (h : tF X.K ca W (dFn o gs) σ H Q) : tCB (rOF X.K ca o) (tEs X.K ca W gs) σ H Q := by
  obtain ⟨w, env, e, s, m, h⟩ := h
  refine tEs_bind (Qb := fun w => QF X.K ca w Q) e s m h (fun e q => QF.later e q) fun w1 ds vs s1 m1 r e1 h1 => ?_
  exact ⟨w1, ds, rfl, s1, r, h1.noErr (n _ _)⟩
theorem f_fnT {o : OpF} {T : String} {x : Str} (hc : CallR X (.type T) (rOF X.K ca o)) (n : MuteF o) (hg : Gl X x) (hm : X.mg x = none) (hv : bootBuiltins x = some (.type T)) (ha : PA X (e :: es) (tEs X.K ca W gs)) (hn : x ≠ "__name__" := by decide) (hdb : (x == ("__debug__" : Str)) = false := by decide)
    (he : starEach (e :: es) X.env = (false, eval e X.env) :: starEach es X.env := by rfl) (hpl : (backTo pos (starEach es X.env)).any (·.1) = false := by rfl) : PE X (.Call (.Name x p) (e :: es) [] pos) (tF X.K ca W (dFn o gs)) :=
  PE.imp (pe_callTy hc hg hm hv ha hn hdb he hpl) fun _ _ _ h => fF_imp n h
theorem f_fnB {o : OpF} {id : String} {x : Str} (hc : CallR X (.builtin id) (rOF X.K ca o)) (n : MuteF o) (hg : Gl X x) (hm : X.mg x = none) (hv : bootBuiltins x = some (.builtin id)) (ha : PA X (e :: es) (tEs X.K ca W gs)) (hn : x ≠ "__name__" := by decide) (hdb : (x == ("__debug__" : Str)) = false := by decide)
    (he : starEach (e :: es) X.env = (false, eval e X.env) :: starEach es X.env := by rfl) (hpl : (backTo pos (starEach es X.env)).any (·.1) = false := by rfl) : PE X (.Call (.Name x p) (e :: es) [] pos) (tF X.K ca W (dFn o gs)) :=
  PE.imp (pe_callB hc hg hm hv ha hn hdb he hpl) fun _ _ _ h => fF_imp n h

theorem callImp {v : Value} {r r' : List V → Hp → VK → Prop} (hc : CallR X v r) (h : ∀ xs H Q, r' xs H Q → r xs H Q) : CallR X v r' := fun pins s σ H xs us Q I k q => hc pins s σ H xs us Q I k (h xs H Q q)
theorem opImp {f : Value → Value → Sem Value} {r r' : R2} (hc : OpR X f r) (h : ∀ x y H Q, r' x y H Q → r x y H Q) : OpR X f r' := fun pins s σ H x y v u Q I k l q => hc pins s σ H x y v u Q I k l (h x y H Q q)

theorem asL_rep {w : Wd} {v : V} {d : D} {xs : List D} (s : SOk X.K ca w) (r : Rep X.K ca w v d) (h : asL d w.S = some xs) : ∃ a vs, v = .ref a ∧ w.H a = some (.lst vs) ∧ RepL X.K ca w vs xs := by
  cases r with
  | lst h1 n r =>
    cases h
    exact ⟨_, _, rfl, h1, r⟩
  | @ref n hn =>
    unfold asL at h
    dsimp only at h
    cases q : w.S[n]? with
    | none => rw [q] at h; cases h
    | some o =>
      cases o with
      | dead => rw [q] at h; cases h
      | dct _ _ => rw [q] at h; cases h
      | lst ys =>
        rw [q] at h
        cases h
        obtain ⟨vs, e, r⟩ := s.live n _ q
        exact ⟨_, vs, rfl, e, r⟩
  | _ => cases h
theorem asSq_rep {w : Wd} {v : V} {d : D} {xs : List D} (s : SOk X.K ca w) (r : Rep X.K ca w v d) (h : asSq d w.S = some xs) : ∃ a vs, v = .ref a ∧ (SqL X.K w.H a vs ∨ SqT X.K w.H a vs) ∧ RepL X.K ca w vs xs := by
  have key : asL d w.S = some xs → ∃ a vs, v = .ref a ∧ (SqL X.K w.H a vs ∨ SqT X.K w.H a vs) ∧ RepL X.K ca w vs xs := fun h => by
    obtain ⟨a, vs, e, q, r⟩ := asL_rep s r h
    exact ⟨a, vs, e, .inl (.inl (.inl q)), r⟩
  cases r with
  | tup h1 r =>
    cases h
    exact ⟨_, _, rfl, .inr h1, r⟩
  | @fls a is hq =>
    cases h
    exact ⟨a, _, rfl, .inl (fls_sq hq), repL_ints is⟩
  | _ => exact key h

/-! ### len, int, abs, max, min, gcd -/
end
def oLen : OpN := fun ds S => match ds with
  | [.str x] => if x.length ≤ sizeLine then .ok (.int x.length) S else .bad
  | [d] => (match asSq d S with | some xs => .ok (.int xs.length) S | none => .bad)
  | _ => .bad
def oInt : OpN := fun ds S => match ds with
  | [.int i] => .ok (.int i) S
  | [.bl b] => .ok (.int (b2i b)) S
  | _ => .bad
def oAbs : OpN := fun ds S => match ds with
  | [.int i] => .ok (.int i.natAbs) S
  | _ => .bad
def oMax2 : OpN := fun ds S => match ds with
  | [.int i, .int j] => .ok (.int (max i j)) S
  | _ => .bad
def oMin2 : OpN := fun ds S => match ds with
  | [.int i, .int j] => .ok (.int (min i j)) S
  | _ => .bad
def oGcd : OpN := fun ds S => match ds with
  | [.int i, .int j] => .ok (.int (Nat.gcd i.natAbs j.natAbs : Nat)) S
  | _ => .bad
def oTuple : OpN := fun ds S => match ds with
  | [.tup xs] => .ok (.tup xs) S
  | [d] => (match asL d S with | some xs => .ok (.tup xs) S | none => .bad)
  | _ => .bad
def oList : OpF := fun ds S => match ds with
  | [d] => (match asSq d S with | some xs => .ok xs S | none => .bad)
  | _ => .bad
def isInts : List D → Option (List Int)
  | [] => some []
  | .int i :: ds => (isInts ds).map (i :: ·)
  | _ => none
def isBls : List D → Option (List Bool)
  | [] => some []
  | .bl i :: ds => (isBls ds).map (i :: ·)
  | _ => none
/-- of one list -/
def lst1 {α β : Type} (isA : List D → Option (List α)) (k : List α → R β) (ds : List D) (S : Store) : R β := match ds with
  | [d] => (match (asL d S).bind isA with | some ns => k ns | none => .bad)
  | _ => .bad
def oSum : OpN := fun ds S => lst1 isInts (fun ns => .ok (.int ns.sum) S) ds S
def oAll : OpN := fun ds S => lst1 isBls (fun bs => .ok (.bl (bs.all id)) S) ds S
def oAny : OpN := fun ds S => lst1 isBls (fun bs => .ok (.bl (bs.any id)) S) ds S
def maxI : List Int → Int
  | [] => 0 | [x] => x | x :: xs => max x (maxI xs)
def minI : List Int → Int
  | [] => 0 | [x] => x | x :: xs => min x (minI xs)
def ne1 (k : List Int → R D) (ns : List Int) : R D := match ns with | [] => .bad | n :: ns => k (n :: ns)
def oMaxL : OpN := fun ds S => lst1 isInts (ne1 fun ns => .ok (.int (maxI ns)) S) ds S
def oMinL : OpN := fun ds S => lst1 isInts (ne1 fun ns => .ok (.int (minI ns)) S) ds S
theorem maxI_ok : ∀ {xs : List Int}, xs ≠ [] → maxI xs ∈ xs ∧ ∀ y ∈ xs, y ≤ maxI xs
  | [], h => absurd rfl h
  | [x], _ => by simp [maxI]
  | x :: y :: ys, _ => by
    have ih := maxI_ok (xs := y :: ys) (by simp)
    have e : maxI (x :: y :: ys) = max x (maxI (y :: ys)) := rfl
    rw [e]
    refine ⟨?_, fun z hz => ?_⟩
    · rcases Int.le_total x (maxI (y :: ys)) with l | l
      · rw [Int.max_eq_right l]; exact List.mem_cons_of_mem _ ih.1
      · rw [Int.max_eq_left l]; exact List.mem_cons_self
    · rcases List.mem_cons.mp hz with rfl | hz
      · exact Int.le_max_left _ _
      · exact Int.le_trans (ih.2 z hz) (Int.le_max_right _ _)
theorem minI_ok : ∀ {xs : List Int}, xs ≠ [] → minI xs ∈ xs ∧ ∀ y ∈ xs, minI xs ≤ y
  | [], h => absurd rfl h
  | [x], _ => by simp [minI]
  | x :: y :: ys, _ => by
    have ih := minI_ok (xs := y :: ys) (by simp)
    have e : minI (x :: y :: ys) = min x (minI (y :: ys)) := rfl
    rw [e]
    refine ⟨?_, fun z hz => ?_⟩
    · rcases Int.le_total x (minI (y :: ys)) with l | l
      · rw [Int.min_eq_left l]; exact List.mem_cons_self
      · rw [Int.min_eq_right l]; exact List.mem_cons_of_mem _ ih.1
    · rcases List.mem_cons.mp hz with rfl | hz
      · exact Int.min_le_left _ _
      · exact Int.le_trans (Int.min_le_right _ _) (ih.2 z hz)
section
variable {X : Cx} {ca : Nat → Addr}
theorem isInts_rep {w : Wd} : ∀ {vs : List V} {ds : List D} {ns : List Int}, RepL X.K ca w vs ds → isInts ds = some ns → vs = ns.map V.int
  | _, _, ns, .nil, h => by cases h; rfl
  | _, _, ns, .cons (d := d) (ds := ds) r t, h => by
    cases r <;> first | (cases h; done) | skip
    unfold isInts at h
    cases q : isInts ds with
    | none => rw [q] at h; cases h
    | some ms =>
      rw [q] at h
      cases h
      rw [isInts_rep t q]
      rfl
theorem isBls_rep {w : Wd} : ∀ {vs : List V} {ds : List D} {ns : List Bool}, RepL X.K ca w vs ds → isBls ds = some ns → vs = ns.map V.bl
  | _, _, ns, .nil, h => by cases h; rfl
  | _, _, ns, .cons (d := d) (ds := ds) r t, h => by
    cases r <;> first | (cases h; done) | skip
    unfold isBls at h
    cases q : isBls ds with
    | none => rw [q] at h; cases h
    | some ms =>
      rw [q] at h
      cases h
      rw [isBls_rep t q]
      rfl
theorem n_len : MuteN oLen := by
  intro a S c v S' h; revert h; unfold oLen; split <;> (try split) <;> simp
theorem n_int : MuteN oInt := by intro a S c v S' h; revert h; unfold oInt; split <;> simp
theorem n_abs : MuteN oAbs := by intro a S c v S' h; revert h; unfold oAbs; split <;> simp
theorem n_max2 : MuteN oMax2 := by intro a S c v S' h; revert h; unfold oMax2; split <;> simp
theorem n_min2 : MuteN oMin2 := by intro a S c v S' h; revert h; unfold oMin2; split <;> simp
theorem n_gcd : MuteN oGcd := by intro a S c v S' h; revert h; unfold oGcd; split <;> simp
theorem n_tuple : MuteN oTuple := by intro a S c v S' h; revert h; unfold oTuple; split <;> (try split) <;> simp
theorem n_list : MuteF oList := by intro a S c v S' h; revert h; unfold oList; split <;> (try split) <;> simp
theorem lst1_mute {α : Type} {isA : List D → Option (List α)} {k : List α → R D} {ds : List D} {S : Store} {c : Nat} {v : D} {S' : Store} (hk : ∀ ns, k ns ≠ .err c v S') : lst1 isA k ds S ≠ .err c v S' := by
  unfold lst1
  split
  · split
    · exact hk _
    · simp
  · simp
theorem n_sum : MuteN oSum := fun a S c v S' => lst1_mute (by simp)
theorem n_all : MuteN oAll := fun a S c v S' => lst1_mute (by simp)
theorem n_any : MuteN oAny := fun a S c v S' => lst1_mute (by simp)
theorem n_maxL : MuteN oMaxL := fun a S c v S' => lst1_mute fun ns => by cases ns <;> simp [ne1]
theorem n_minL : MuteN oMinL := fun a S c v S' => lst1_mute fun ns => by cases ns <;> simp [ne1]
theorem c_len : CallR X (.builtin "len") (rON X.K ca oLen) := callImp call_len fun xs H Q h => by
  obtain ⟨w, ds, e, s, r, h⟩ := h
  subst e
  have sq : ∀ {d : D} {v : V}, Rep X.K ca w v d → Sat (match asSq d w.S with | some xs => Py.R.ok (.int xs.length) w.S | none => .bad) (QV X.K ca w Q) (fun _ _ _ => False) → ∃ x n, [v] = [x] ∧ LenV X.K x w.H n ∧ Q (.int n) w.H := fun {d v} r h => by
    cases q : asSq d w.S with
    | none => rw [q] at h; exact h.elim
    | some ys =>
      rw [q] at h
      obtain ⟨a, vs, e, q1, r1⟩ := asSq_rep s r q
      subst e
      refine ⟨.ref a, ys.length, rfl, ?_, sat_here s h (.int _)⟩
      rcases q1 with q1 | q1
      · exact .inl ⟨vs, q1, r1.length.symm⟩
      · exact .inr ⟨vs, q1, r1.length.symm⟩
  unfold oLen at h
  cases r with
  | nil => exact h.elim
  | cons r t =>
    cases t with
    | cons _ _ => cases r <;> exact h.elim
    | nil =>
      cases r with
      | str x =>
        dsimp only at h
        by_cases hl : x.length ≤ sizeLine
        · rw [if_pos hl] at h
          exact ⟨.str x, x.length, rfl, ⟨hl, rfl⟩, sat_here s h (.int _)⟩
        · rw [if_neg hl] at h
          exact h.elim
      | non => exact sq .non h
      | bl b => exact sq (.bl b) h
      | int i => exact sq (.int i) h
      | tup a b => exact sq (.tup a b) h
      | lst a b c => exact sq (.lst a b c) h
      | ref a => exact sq (.ref a) h
      | fls a => exact sq (.fls a) h
      | dct a b c d => exact sq (.dct a b c d) h
      | exc a b c d e => exact sq (.exc a b c d e) h
theorem c_int : CallR X (.type "int") (rON X.K ca oInt) := callImp call_int1 fun xs H Q h => by
  obtain ⟨w, ds, e, s, r, h⟩ := h
  subst e
  unfold oInt at h
  cases r with
  | nil => exact h.elim
  | cons r t =>
    cases t with
    | cons _ _ => cases r <;> exact h.elim
    | nil =>
      cases r with
      | int i => exact .inl ⟨i, rfl, sat_here s h (.int _)⟩
      | bl b => exact .inr ⟨b, rfl, by have := sat_here s h (.int _); cases b <;> exact this⟩
      | _ => exact h.elim
theorem c_abs : CallR X (.builtin "abs") (rON X.K ca oAbs) := callImp call_abs fun xs H Q h => by
  obtain ⟨w, ds, e, s, r, h⟩ := h
  subst e
  unfold oAbs at h
  cases r with
  | nil => exact h.elim
  | cons r t =>
    cases t with
    | cons _ _ => cases r <;> exact h.elim
    | nil =>
      cases r with
      | int i =>
        refine ⟨i, rfl, ?_⟩
        have e : (if i < 0 then -i else i) = ((i.natAbs : Nat) : Int) := by split <;> omega
        rw [e]
        exact sat_here s h (.int _)
      | _ => exact h.elim
theorem two_ints {w : Wd} {xs : List V} {ds : List D} {o : OpN} {k : Int → Int → Int} (ho : ∀ ds S, o ds S = match ds with | [.int i, .int j] => .ok (.int (k i j)) S | _ => .bad) {Q : VK} (s : SOk X.K ca w) (r : RepL X.K ca w xs ds) (h : Sat (o ds w.S) (QV X.K ca w Q) fun _ _ _ => False) :
    ∃ i j, xs = [.int i, .int j] ∧ Q (.int (k i j)) w.H := by
  rw [ho] at h
  cases r with
  | nil => exact h.elim
  | cons r t =>
    cases t with
    | nil => cases r <;> exact h.elim
    | cons r2 t2 =>
      cases t2 with
      | cons _ _ => cases r <;> cases r2 <;> exact h.elim
      | nil =>
        cases r with
        | int i =>
          cases r2 with
          | int j => exact ⟨i, j, rfl, sat_here s h (.int _)⟩
          | _ => exact h.elim
        | _ => exact h.elim
theorem c_max2 (hc : X.calm = true) : CallR X (.builtin "max") (rON X.K ca oMax2) := callImp (call_max2 hc) fun xs H Q h => by
  obtain ⟨w, ds, e, s, r, h⟩ := h
  subst e
  obtain ⟨i, j, e, q⟩ := two_ints (k := fun i j => max i j) (fun ds S => rfl) s r h
  refine ⟨i, j, e, ?_⟩
  have e : (if j > i then j else i) = max i j := by split <;> omega
  rw [e]; exact q
theorem c_min2 (hc : X.calm = true) : CallR X (.builtin "min") (rON X.K ca oMin2) := callImp (call_min2 hc) fun xs H Q h => by
  obtain ⟨w, ds, e, s, r, h⟩ := h
  subst e
  obtain ⟨i, j, e, q⟩ := two_ints (k := fun i j => min i j) (fun ds S => rfl) s r h
  refine ⟨i, j, e, ?_⟩
  have e : (if j < i then j else i) = min i j := by split <;> omega
  rw [e]; exact q
theorem c_gcd : CallR X (.builtin "math.gcd") (rON X.K ca oGcd) := callImp cr_gcd fun xs H Q h => by
  obtain ⟨w, ds, e, s, r, h⟩ := h
  subst e
  exact two_ints (k := fun i j => ((Nat.gcd i.natAbs j.natAbs : Nat) : Int)) (fun ds S => rfl) s r h
theorem c_tuple : CallR X (.type "tuple") (rON X.K ca oTuple) := callImp call_tuple_of fun xs H Q h => by
  obtain ⟨w, ds, e, s, r, h⟩ := h
  subst e
  have sq : ∀ {d : D} {v : V}, Rep X.K ca w v d → Sat (match asL d w.S with | some xs => Py.R.ok (.tup xs) w.S | none => .bad) (QV X.K ca w Q) (fun _ _ _ => False) →
      ∃ p ys, [v] = [.ref p] ∧ ((SqL X.K w.H p ys ∧ ∀ l, w.H l = none → Q (.ref l) (upd w.H l (.tup ys))) ∨ (SqT X.K w.H p ys ∧ Q (.ref p) w.H)) := fun {d v} r h => by
    cases q : asL d w.S with
    | none => rw [q] at h; exact h.elim
    | some ys =>
      rw [q] at h
      obtain ⟨a, vs, e, q1, r1⟩ := asL_rep s r q
      subst e
      refine ⟨a, vs, rfl, .inl ⟨.inl (.inl q1), fun l hl => ?_⟩⟩
      have x := Ext.alloc (w := w) (o := .tup vs) hl
      exact h ⟨upd w.H l (.tup vs), w.ρ, w.S⟩ rfl x (s.alloc hl) (.ref l) (.tup (.inl (.inl upd_same)) (r1.mono x s))
  unfold oTuple at h
  cases r with
  | nil => exact h.elim
  | cons r t =>
    cases t with
    | cons _ _ => cases r <;> exact h.elim
    | nil =>
      cases r with
      | @tup a vs ds hq ra => exact ⟨a, vs, rfl, .inr ⟨hq, sat_here s h (.tup hq ra)⟩⟩
      | non => exact sq .non h
      | bl b => exact sq (.bl b) h
      | int i => exact sq (.int i) h
      | str x => exact sq (.str x) h
      | lst a b c => exact sq (.lst a b c) h
      | ref a => exact sq (.ref a) h
      | fls a => exact sq (.fls a) h
      | dct a b c d => exact sq (.dct a b c d) h
      | exc a b c d e => exact sq (.exc a b c d e) h
theorem c_list : CallR X (.type "list") (rOF X.K ca oList) := callImp call_list_of fun xs H Q h => by
  obtain ⟨w, ds, e, s, r, h⟩ := h
  subst e
  unfold oList at h
  cases r with
  | nil => exact h.elim
  | @cons v d _ _ r t =>
    cases t with
    | cons _ _ => exact h.elim
    | nil =>
      dsimp only at h
      cases q : asSq d w.S with
      | none => rw [q] at h; exact h.elim
      | some ys =>
        rw [q] at h
        obtain ⟨a, vs, e, q1, r1⟩ := asSq_rep s r q
        subst e
        refine ⟨a, vs, rfl, ?_, fun l hl => h w rfl (.refl w) s vs l r1 hl⟩
        rcases q1 with q1 | q1
        · exact .inl q1
        · exact .inr q1
/-- of a list of ints -/
theorem one_list {w : Wd} {xs : List V} {ds : List D} {Q : VK} {α : Type} {isA : List D → Option (List α)} {mk : α → V} {k : List α → Py.R D}
    (hA : ∀ {vs : List V} {ds : List D} {ns : List α}, RepL X.K ca w vs ds → isA ds = some ns → vs = ns.map mk) (s : SOk X.K ca w) (r : RepL X.K ca w xs ds)
    (h : Sat (lst1 isA k ds w.S) (QV X.K ca w Q) fun _ _ _ => False) :
    ∃ a ns, xs = [V.ref a] ∧ SqL X.K w.H a (ns.map mk) ∧ Sat (k ns) (QV X.K ca w Q) fun _ _ _ => False := by
  unfold lst1 at h
  cases r with
  | nil => exact h.elim
  | @cons v d _ _ r t =>
    cases t with
    | cons _ _ => exact h.elim
    | nil =>
      dsimp only at h
      cases q : asL d w.S with
      | none => rw [q] at h; exact h.elim
      | some ys =>
        rw [q] at h
        obtain ⟨a, vs, e, q1, r1⟩ := asL_rep s r q
        subst e
        cases q2 : isA ys with
        | none => rw [Option.bind_some, q2] at h; exact h.elim
        | some ns =>
          rw [Option.bind_some, q2] at h
          refine ⟨a, ns, rfl, ?_, h⟩
          rw [← hA r1 q2]
          exact .inl (.inl q1)
theorem c_sum (hc : X.calm = true) : CallR X (.builtin "sum") (rON X.K ca oSum) := callImp (cr_sum hc) fun xs H Q h => by
  obtain ⟨w, ds, e, s, r, h⟩ := h
  subst e
  obtain ⟨a, ns, e, q, h⟩ := one_list isInts_rep s r h
  exact ⟨a, ns, e, q, sat_here s h (.int _)⟩
theorem c_all (hc : X.calm = true) : CallR X (.builtin "all") (rON X.K ca oAll) := callImp (cr_all hc) fun xs H Q h => by
  obtain ⟨w, ds, e, s, r, h⟩ := h
  subst e
  obtain ⟨a, ns, e, q, h⟩ := one_list isBls_rep s r h
  exact ⟨a, ns, e, q, sat_here s h (.bl _)⟩
theorem c_any (hc : X.calm = true) : CallR X (.builtin "any") (rON X.K ca oAny) := callImp (cr_any hc) fun xs H Q h => by
  obtain ⟨w, ds, e, s, r, h⟩ := h
  subst e
  obtain ⟨a, ns, e, q, h⟩ := one_list isBls_rep s r h
  exact ⟨a, ns, e, q, sat_here s h (.bl _)⟩
theorem c_maxL (hc : X.calm = true) : CallR X (.builtin "max") (rON X.K ca oMaxL) := callImp (cr_max hc) fun xs H Q h => by
  obtain ⟨w, ds, e, s, r, h⟩ := h
  subst e
  obtain ⟨a, ns, e, q, h⟩ := one_list isInts_rep s r h
  cases ns with
  | nil => exact h.elim
  | cons n ns =>
    have z := maxI_ok (xs := n :: ns) (by simp)
    refine ⟨a, n :: ns, e, q, Nat.succ_pos _, fun m hm hle => ?_⟩
    have e : m = maxI (n :: ns) := Int.le_antisymm (z.2 m hm) (hle _ z.1)
    rw [e]
    exact sat_here s h (.int _)
theorem c_minL (hc : X.calm = true) : CallR X (.builtin "min") (rON X.K ca oMinL) := callImp (cr_min hc) fun xs H Q h => by
  obtain ⟨w, ds, e, s, r, h⟩ := h
  subst e
  obtain ⟨a, ns, e, q, h⟩ := one_list isInts_rep s r h
  cases ns with
  | nil => exact h.elim
  | cons n ns =>
    have z := minI_ok (xs := n :: ns) (by simp)
    refine ⟨a, n :: ns, e, q, Nat.succ_pos _, fun m hm hle => ?_⟩
    have e : m = minI (n :: ns) := Int.le_antisymm (hle _ z.1) (z.2 m hm)
    rw [e]
    exact sat_here s h (.int _)
end
end Py

set_option maxHeartbeats 4000000
/-! PyG: places, slices, what changes lists, keywords, constants of the module. -/
namespace Py
open PySem PySem.Spec PyProof.Rows L2

/-! ### d[i] -/
def oIdx : Op2 := fun a b S => match a, b with
  | .str z, .int i => if z.length ≤ sizeLine then (match atI z.cps.toList i with | some c => .ok (.str ⟨#[c]⟩) S | none => .bad) else .bad
  | d, .int i => (match (asSq d S).bind (atI · i) with | some v => .ok v S | none => .bad)
  | _, _ => .bad
theorem m_idx : Mute2 oIdx := by
  intro a b S c v S' h; revert h; unfold oIdx; split <;> (try split) <;> (try split) <;> simp
section
variable {X : Cx} {ca : Nat → Addr} {W : WX} {pos p : Pos} {f g h : Den} {gs hs : Dens} {a b e : Expr} {es : List Expr} {w : Wd}
theorem RepL.atI : ∀ {vs : List V} {ds : List D} {i : Int} {d : D}, RepL X.K ca w vs ds → L2.atI ds i = some d → ∃ v, L2.atI vs i = some v ∧ Rep X.K ca w v d := fun {vs ds i d} r h => by
  unfold L2.atI at h ⊢
  rw [r.length]
  cases q : ixN ds.length i with
  | none => rw [q] at h; cases h
  | some j =>
    rw [q] at h
    exact r.get h
theorem r_idx : IxR X (rO2 X.K ca oIdx) := by
  intro value slice pins s σ H x y v u Q I rx ry h hs
  refine ix_seq value slice pins s σ H x y v u Q I rx ry ?_ hs
  obtain ⟨w, dx, dy, e, sk, r1, r2, q⟩ := h
  subst e
  unfold oIdx at q
  have sq : ∀ {i : Int}, Rep X.K ca w x dx → y = .int i → Sat (match (asSq dx w.S).bind (L2.atI · i) with | some v => Py.R.ok v w.S | none => .bad) (QV X.K ca w Q) (fun _ _ _ => False) → rIx X.K x y w.H Q := fun {i} r ey h => by
    cases q : asSq dx w.S with
    | none => rw [q] at h; exact h.elim
    | some ys =>
      rw [q] at h
      rw [Option.bind_some] at h
      cases q2 : L2.atI ys i with
      | none => rw [q2] at h; exact h.elim
      | some d =>
        rw [q2] at h
        obtain ⟨a, vs, e, q1, r1⟩ := asSq_rep sk r q
        obtain ⟨v, hv, rv⟩ := r1.atI q2
        rcases q1 with q1 | q1
        · exact .inl ⟨a, vs, i, v, e, ey, q1, hv, sat_here sk h rv⟩
        · exact .inr (.inl ⟨a, vs, i, v, e, ey, q1, hv, sat_here sk h rv⟩)
  cases r2 with
  | int i =>
    cases r1 with
    | str z =>
      dsimp only at q
      by_cases hl : z.length ≤ sizeLine
      · rw [if_pos hl] at q
        cases q2 : L2.atI z.cps.toList i with
        | none => rw [q2] at q; exact q.elim
        | some c =>
          rw [q2] at q
          exact .inr (.inr ⟨z, i, c, rfl, rfl, hl, q2, sat_here sk q (.str _)⟩)
      · rw [if_neg hl] at q
        exact q.elim
    | non => exact sq .non rfl q
    | bl b => exact sq (.bl b) rfl q
    | int i => exact sq (.int i) rfl q
    | tup a b => exact sq (.tup a b) rfl q
    | lst a b c => exact sq (.lst a b c) rfl q
    | ref a => exact sq (.ref a) rfl q
    | fls a => exact sq (.fls a) rfl q
    | dct a b c d => exact sq (.dct a b c d) rfl q
    | exc a b c d e => exact sq (.exc a b c d e) rfl q
  | _ => cases r1 <;> exact q.elim
theorem e_idx (ha : PE X a (tE X.K ca W f)) (hb : PE X b (tE X.K ca W g)) (hs : PlainIx b) : PE X (.Subscript a b pos) (tE X.K ca W (eBin oIdx f g)) :=
  PE.imp (pe_ix r_idx ha hb hs) fun _ _ _ h => bin_imp m_idx h
end

/-! ### d[i:j] -/
def cutD (xs : List D) (lo hi : Option Int) : List D := (xs.drop (HT.sIx xs.length 0 lo)).take (HT.sIx xs.length xs.length hi - HT.sIx xs.length 0 lo)
abbrev DenO := Env → Store → R (Option Int)
def oNo : DenO := fun _ S => .ok none S
def oPart (f : Den) : DenO := fun e S => (f e S).bind fun d S1 => match d with | .int i => .ok (some i) S1 | _ => .bad
/-- of a tuple, of a list (as a value) -/
def eSl (f : Den) (lo hi : DenO) : Den := fun e S => (f e S).bind fun d S1 => (lo e S1).bind fun l S2 => (hi e S2).bind fun u S3 => match d with
  | .tup xs => .ok (.tup (cutD xs l u)) S3
  | .str z => if z.length ≤ sizeLine then .ok (.str (cutS z l u)) S3 else .bad
  | d => (match asL d S3 with | some xs => .ok (.lst (cutD xs l u)) S3 | none => .bad)
/-- of a list, to be changed -/
def dSl (f : Den) (lo hi : DenO) : Dens := fun e S => (f e S).bind fun d S1 => (lo e S1).bind fun l S2 => (hi e S2).bind fun u S3 =>
  match asL d S3 with | some xs => .ok (cutD xs l u) S3 | none => .bad
section
variable {X : Cx} {ca : Nat → Addr} {W : WX} {pos p p2 : Pos} {f g h : Den} {gs hs : Dens} {a b e : Expr} {es : List Expr} {w : Wd} {lo hi : Option Expr} {l u : DenO}
def QO (w : Wd) (K : PySem.W.Frag) (ca : Nat → Addr) (Q : Option Int → Hp → Prop) : Option Int → Store → Prop := fun o S => Aft K ca w S fun w' => Q o w'.H
def tO (K : PySem.W.Frag) (ca : Nat → Addr) (W : WX) (l : DenO) : TO := fun σ H Q => ∃ w env, w.H = H ∧ SOk K ca w ∧ Sim K ca w env σ ∧ Sat (l env w.S) (QO w K ca Q) (QE K ca w W σ)
theorem o_none : PO X none (tO X.K ca W oNo) := ⟨fun pins s σ H Q I h => po_none.run pins s σ H Q I (by
  obtain ⟨w, env, e, s, m, h⟩ := h
  subst e
  exact Aft.here (w' := w) h (.refl w) s)⟩
theorem o_some (ha : PE X a (tE X.K ca W f)) : PO X (some a) (tO X.K ca W (oPart f)) := ⟨fun pins s σ H Q I h => (po_some ha).run pins s σ H Q I (by
  obtain ⟨w, env, e, s, m, h⟩ := h
  refine ⟨w, env, e, s, m, (Sat.bind h).mono (fun d S1 q => ?_) fun _ _ _ q => q⟩
  intro w1 hS x s1 v r
  cases r with
  | int i => exact ⟨i, rfl, q w1 hS x s1⟩
  | _ => exact q.elim)⟩
theorem tO_bind {l : DenO} {σ : St} {H : Hp} {β : Type} {k : Option Int → Store → Py.R β} {w : Wd} {env : Env} {Qb : Wd → β → Store → Prop} {R : Option Int → Hp → Prop}
    (e : w.H = H) (s : SOk X.K ca w) (m : Sim X.K ca w env σ) (h : Sat ((l env w.S).bind k) (Qb w) (QE X.K ca w W σ))
    (hl : ∀ {w' : Wd} {b : β} {S : Store}, Ext w w' → Qb w b S → Qb w' b S)
    (hr : ∀ w1 b, SOk X.K ca w1 → Sim X.K ca w1 env σ → Ext w w1 → Sat (k b w1.S) (Qb w1) (QE X.K ca w1 W σ) → R b w1.H) :
    tO X.K ca W l σ H R := by
  refine ⟨w, env, e, s, m, (Sat.bind h).mono (fun d S1 q => ?_) fun c v S q => q⟩
  intro w1 hS e1 s1
  subst hS
  exact hr w1 d s1 (m.mono e1 s) e1 (q.mono (fun b S z => hl e1 z) fun c v S z => QE.later e1 z)
theorem RepL.cut {vs : List V} {ds : List D} (r : RepL X.K ca w vs ds) (lo hi : Option Int) : RepL X.K ca w (cutV vs lo hi) (cutD ds lo hi) := by
  unfold cutV cutD
  rw [r.length]
  exact (r.drop _).take _
theorem cut_all {xs : List D} {lo hi : Option Int} (h : HT.sIx xs.length 0 lo = 0 ∧ HT.sIx xs.length xs.length hi = xs.length) : cutD xs lo hi = xs := by
  unfold cutD
  rw [h.1, h.2, List.drop_zero, Nat.sub_zero, List.take_length]
theorem e_sl (ha : PE X a (tE X.K ca W f)) (hl : PO X lo (tO X.K ca W l)) (hu : PO X hi (tO X.K ca W u)) : PE X (.Subscript a (.Slice lo hi none p2) pos) (tE X.K ca W (eSl f l u)) :=
  PE.imp (pe_slice (sl_tupA.or (sl_list.or sl_str)) ha hl hu) fun σ H Q ⟨w, env, e, s, m, h⟩ => by
    refine tE_bind (Qb := fun w => QV X.K ca w Q) e s m h (fun e q => QV.later e q) fun w1 d v s1 m1 r e1 h1 => ?_
    refine tO_bind (Qb := fun w => QV X.K ca w Q) rfl s1 m1 h1 (fun e q => QV.later e q) fun w2 l s2 m2 e2 h2 => ?_
    refine tO_bind (Qb := fun w => QV X.K ca w Q) rfl s2 m2 h2 (fun e q => QV.later e q) fun w3 u s3 m3 e3 h3 => ?_
    have r3 := (r.mono e2 s1).mono e3 s2
    have lists : Sat (match asL d w3.S with | some xs => Py.R.ok (.lst (cutD xs l u)) w3.S | none => .bad) (QV X.K ca w3 Q) (QE X.K ca w3 W σ) → rSlL X.K v l u w3.H Q := fun h => by
      cases q : asL d w3.S with
      | none => rw [q] at h; exact h.elim
      | some ys =>
        rw [q] at h
        obtain ⟨b, vs, e, q1, r1⟩ := asL_rep s3 r3 q
        refine ⟨b, vs, e, .inl (.inl q1), fun p hp => ?_⟩
        have x := Ext.alloc (w := w3) (o := .lst (cutV vs l u)) hp
        exact h ⟨upd w3.H p (.lst (cutV vs l u)), w3.ρ, w3.S⟩ rfl x (s3.alloc hp) (.ref p) (.lst upd_same (fun m => s3.notM0 hp m) ((r1.cut l u).mono x s3))
    cases r3 with
    | @tup b vs ds hq ra =>
      refine .inl ⟨b, vs, rfl, hq, fun hz => ?_, fun hz p hp => ?_⟩
      · rw [ra.length] at hz
        have h3' : QV X.K ca w3 Q (.tup (cutD ds l u)) w3.S := h3
        rw [cut_all hz] at h3'
        exact sat_here s3 h3' (.tup hq ra)
      · have x := Ext.alloc (w := w3) (o := .tup (cutV vs l u)) hp
        exact h3 ⟨upd w3.H p (.tup (cutV vs l u)), w3.ρ, w3.S⟩ rfl x (s3.alloc hp) (.ref p) (.tup (.inl (.inl upd_same)) ((ra.cut l u).mono x s3))
    | non => exact .inr (.inl (lists h3))
    | bl b => exact .inr (.inl (lists h3))
    | int i => exact .inr (.inl (lists h3))
    | str z =>
      by_cases hz : z.length ≤ sizeLine
      · have h3' : Sat (if z.length ≤ sizeLine then Py.R.ok (.str (cutS z l u)) w3.S else .bad) (QV X.K ca w3 Q) (QE X.K ca w3 W σ) := h3
        rw [if_pos hz] at h3'
        exact .inr (.inr ⟨z, rfl, hz, sat_here s3 h3' (.str _)⟩)
      · have h3' : Sat (if z.length ≤ sizeLine then Py.R.ok (.str (cutS z l u)) w3.S else .bad) (QV X.K ca w3 Q) (QE X.K ca w3 W σ) := h3
        rw [if_neg hz] at h3'
        exact h3'.elim
    | lst a b c => exact .inr (.inl (lists h3))
    | ref a => exact .inr (.inl (lists h3))
    | fls a => exact .inr (.inl (lists h3))
    | dct a b c d => exact .inr (.inl (lists h3))
    | exc a b c d e => exact .inr (.inl (lists h3))
theorem f_sl (ha : PE X a (tE X.K ca W f)) (hl : PO X lo (tO X.K ca W l)) (hu : PO X hi (tO X.K ca W u)) : PE X (.Subscript a (.Slice lo hi none p2) pos) (tF X.K ca W (dSl f l u)) :=
  PE.imp (pe_slice sl_list ha hl hu) fun σ H Q ⟨w, env, e, s, m, h⟩ => by
    refine tE_bind (Qb := fun w => QF X.K ca w Q) e s m h (fun e q => QF.later e q) fun w1 d v s1 m1 r e1 h1 => ?_
    refine tO_bind (Qb := fun w => QF X.K ca w Q) rfl s1 m1 h1 (fun e q => QF.later e q) fun w2 l s2 m2 e2 h2 => ?_
    refine tO_bind (Qb := fun w => QF X.K ca w Q) rfl s2 m2 h2 (fun e q => QF.later e q) fun w3 u s3 m3 e3 h => ?_
    have r3 := (r.mono e2 s1).mono e3 s2
    cases q : asL d w3.S with
    | none => rw [q] at h; exact h.elim
    | some ys =>
      rw [q] at h
      obtain ⟨b, vs, e, q1, r1⟩ := asL_rep s3 r3 q
      exact ⟨b, vs, e, .inl (.inl q1), fun p hp => h w3 rfl (.refl w3) s3 _ p (r1.cut l u) hp⟩
end

/-! ### lists put together -/
/-- + of lists: as a value -/
def oCat : Op2 := fun a b S => match a, b with
  | .int i, .int j => .ok (.int (i + j)) S
  | a, b => (match asL a S, asL b S with
    | some xs, some ys => if xs.length + ys.length ≤ sizeLine then .ok (.lst (xs ++ ys)) S else .bad
    | _, _ => oAdd a b S)
def dCat (f g : Den) : Dens := fun e S => (f e S).bind fun a S1 => (g e S1).bind fun b S2 => match asL a S2, asL b S2 with
  | some xs, some ys => if xs.length + ys.length ≤ sizeLine then .ok (xs ++ ys) S2 else .bad
  | _, _ => .bad
theorem m_cat : Mute2 oCat := by
  intro a b S c v S' h; revert h; unfold oCat
  split
  · simp
  · split
    · split <;> simp
    · exact m_add a b S c v S'
/-- n times -/
def repD (n : Nat) (xs : List D) : List D := (List.replicate n xs).flatten
def repOk (xs : List D) (k : Int) : Bool := decide (-(2 ^ 63) ≤ k) && (decide (k < 2 ^ 63) && decide (xs.length * k.toNat ≤ sizeLine))
def dRep (f g : Den) : Dens := fun e S => (f e S).bind fun a S1 => (g e S1).bind fun b S2 => match asL a S2, b with
  | some xs, .int k => if repOk xs k then .ok (repD k.toNat xs) S2 else .bad
  | _, _ => .bad
def repTOk (xs : List D) (k : Int) : Bool := decide (xs ≠ [] ∧ 2 ≤ k ∧ k ≤ 1000 ∧ xs.length ≤ 1000)
/-- * : numbers, a list (as a value), a tuple -/
def oRep : Op2 := fun a b S => match a, b with
  | .int i, .int j => if mulOk i j then .ok (.int (i * j)) S else .bad
  | .tup xs, .int k => if xs.length = 0 then .bad else if 2 ≤ k ∧ k ≤ 1000 ∧ xs.length ≤ 1000 then .ok (.tup (repD k.toNat xs)) S else .bad
  | a, .int k => (match asL a S with | some xs => if repOk xs k then .ok (.lst (repD k.toNat xs)) S else .bad | none => .bad)
  | _, _ => .bad
theorem m_rep : Mute2 oRep := by
  intro a b S c v S' h; revert h; unfold oRep
  split <;> (try split) <;> (try split) <;> simp
section
variable {X : Cx} {ca : Nat → Addr} {W : WX} {pos p p2 : Pos} {f g h : Den} {a b e : Expr} {w : Wd}
theorem opOr {F : Value → Value → Sem Value} {r r' : R2} (h : OpR X F r) (h' : OpR X F r') : OpR X F (fun x y H Q => r x y H Q ∨ r' x y H Q) := by
  intro pins s σ H x y v u Q I rx ry q
  rcases q with q | q
  · exact h pins s σ H x y v u Q I rx ry q
  · exact h' pins s σ H x y v u Q I rx ry q
theorem r_cat : OpR X (binaryOp .Add) (rO2 X.K ca oCat) := opImp (opOr (r_add (ca := ca)) op_cat) fun x y H Q h => by
  obtain ⟨w, dx, dy, e, sk, r1, r2, q⟩ := h
  subst e
  unfold oCat at q
  split at q
  · exact .inl ⟨w, _, _, rfl, sk, r1, r2, q⟩
  · split at q
    · rename_i xs ys q1 q2
      by_cases hl : xs.length + ys.length ≤ sizeLine
      · rw [if_pos hl] at q
        obtain ⟨a, vs, e, h1, ra⟩ := asL_rep sk r1 q1
        obtain ⟨b, us, e2, h2, rb⟩ := asL_rep sk r2 q2
        refine .inr ⟨a, b, vs, us, e, e2, h1, h2, by rw [ra.length, rb.length]; exact hl, fun p hp => ?_⟩
        have x := Ext.alloc (w := w) (o := .lst (vs ++ us)) hp
        exact q ⟨upd w.H p (.lst (vs ++ us)), w.ρ, w.S⟩ rfl x (sk.alloc hp) (.ref p) (.lst upd_same (fun m => sk.notM0 hp m) ((ra.append rb).mono x sk))
      · rw [if_neg hl] at q
        exact q.elim
    · exact .inl ⟨w, _, _, rfl, sk, r1, r2, q⟩
theorem RepL.rep {vs : List V} {ds : List D} (r : RepL X.K ca w vs ds) : ∀ n : Nat, RepL X.K ca w (List.replicate n vs).flatten (repD n ds)
  | 0 => .nil
  | n + 1 => by
    unfold repD
    rw [List.replicate_succ, List.replicate_succ, List.flatten_cons, List.flatten_cons]
    exact r.append (r.rep n)
theorem r_rep : OpR X (binaryOp .Mult) (rO2 X.K ca oRep) := opImp (opOr (opOr (r_mul (ca := ca)) op_rep) op_repT) fun x y H Q h => by
  obtain ⟨w, dx, dy, e, sk, r1, r2, q⟩ := h
  subst e
  have lists : ∀ {k : Int}, y = .int k → Sat (match asL dx w.S with | some xs => if repOk xs k then Py.R.ok (.lst (repD k.toNat xs)) w.S else .bad | none => .bad) (QV X.K ca w Q) (fun _ _ _ => False) → rRep x y w.H Q := fun {k} ey q => by
    cases q1 : asL dx w.S with
    | none => rw [q1] at q; exact q.elim
    | some xs =>
      rw [q1] at q
      dsimp only at q
      by_cases hl : repOk xs k = true
      · rw [if_pos hl] at q
        unfold repOk at hl
        rw [Bool.and_eq_true, Bool.and_eq_true] at hl
        obtain ⟨a, vs, e, h1, ra⟩ := asL_rep sk r1 q1
        refine ⟨a, k, vs, e, ey, h1, of_decide_eq_true hl.1, of_decide_eq_true hl.2.1, by rw [ra.length]; exact of_decide_eq_true hl.2.2, fun p hp => ?_⟩
        have x := Ext.alloc (w := w) (o := .lst (List.replicate k.toNat vs).flatten) hp
        exact q ⟨upd w.H p (.lst (List.replicate k.toNat vs).flatten), w.ρ, w.S⟩ rfl x (sk.alloc hp) (.ref p) (.lst upd_same (fun m => sk.notM0 hp m) ((ra.rep _).mono x sk))
      · rw [if_neg hl] at q
        exact q.elim
  unfold oRep at q
  cases r2 with
  | int k =>
    cases r1 with
    | int i => exact .inl (.inl ⟨w, _, _, rfl, sk, .int i, .int k, q⟩)
    | @tup a vs ds hq ra =>
      dsimp only at q
      by_cases h0 : ds.length = 0
      · rw [if_pos h0] at q; exact q.elim
      · rw [if_neg h0] at q
        by_cases hk : 2 ≤ k ∧ k ≤ 1000 ∧ ds.length ≤ 1000
        · rw [if_pos hk] at q
          refine .inr ⟨a, k, vs, rfl, rfl, hq, fun z => h0 (by rw [← ra.length, z]; rfl), hk.1, hk.2.1, by rw [ra.length]; exact hk.2.2, fun p hp => ?_⟩
          have x := Ext.alloc (w := w) (o := .tup (List.replicate k.toNat vs).flatten) hp
          exact q ⟨upd w.H p (.tup (List.replicate k.toNat vs).flatten), w.ρ, w.S⟩ rfl x (sk.alloc hp) (.ref p) (.tup (.inl (.inl upd_same)) ((ra.rep _).mono x sk))
        · rw [if_neg hk] at q; exact q.elim
    | non => exact .inl (.inr (lists rfl q))
    | bl b => exact .inl (.inr (lists rfl q))
    | str x => exact .inl (.inr (lists rfl q))
    | lst a b c => exact .inl (.inr (lists rfl q))
    | ref a => exact .inl (.inr (lists rfl q))
    | fls a => exact .inl (.inr (lists rfl q))
    | dct a b c d => exact .inl (.inr (lists rfl q))
    | exc a b c d e => exact .inl (.inr (lists rfl q))
  | _ => cases r1 <;> exact q.elim
theorem f_cat (ha : PE X a (tE X.K ca W f)) (hb : PE X b (tE X.K ca W g)) : PE X (.BinOp a .Add b pos) (tF X.K ca W (dCat f g)) := PE.imp (pe_op op_cat ha hb) fun σ H Q ⟨w, env, e, s, m, h⟩ => by
  refine tE_bind (Qb := fun w => QF X.K ca w Q) e s m h (fun e q => QF.later e q) fun w1 d v s1 m1 r e1 h1 => ?_
  refine tE_bind (Qb := fun w => QF X.K ca w Q) rfl s1 m1 h1 (fun e q => QF.later e q) fun w2 d2 v2 s2 m2 r2 e2 h2 => ?_
  have r3 := r.mono e2 s1
  cases q1 : asL d w2.S with
  | none => rw [q1] at h2; exact h2.elim
  | some xs =>
    cases q2 : asL d2 w2.S with
    | none => rw [q1, q2] at h2; exact h2.elim
    | some ys =>
      rw [q1, q2] at h2
      dsimp only at h2
      by_cases hl : xs.length + ys.length ≤ sizeLine
      · rw [if_pos hl] at h2
        obtain ⟨a, vs, e, h1, ra⟩ := asL_rep s2 r3 q1
        obtain ⟨b, us, e2, h3, rb⟩ := asL_rep s2 r2 q2
        exact ⟨a, b, vs, us, e, e2, h1, h3, by rw [ra.length, rb.length]; exact hl, fun p hp => h2 w2 rfl (.refl w2) s2 _ p (ra.append rb) hp⟩
      · rw [if_neg hl] at h2
        exact h2.elim
theorem f_rep (ha : PE X a (tE X.K ca W f)) (hb : PE X b (tE X.K ca W g)) : PE X (.BinOp a .Mult b pos) (tF X.K ca W (dRep f g)) := PE.imp (pe_op op_rep ha hb) fun σ H Q ⟨w, env, e, s, m, h⟩ => by
  refine tE_bind (Qb := fun w => QF X.K ca w Q) e s m h (fun e q => QF.later e q) fun w1 d v s1 m1 r e1 h1 => ?_
  refine tE_bind (Qb := fun w => QF X.K ca w Q) rfl s1 m1 h1 (fun e q => QF.later e q) fun w2 d2 v2 s2 m2 r2 e2 h2 => ?_
  have r3 := r.mono e2 s1
  cases q1 : asL d w2.S with
  | none => rw [q1] at h2; exact h2.elim
  | some xs =>
    rw [q1] at h2
    cases r2 with
    | int k =>
      dsimp only at h2
      by_cases hl : repOk xs k = true
      · rw [if_pos hl] at h2
        unfold repOk at hl
        rw [Bool.and_eq_true, Bool.and_eq_true] at hl
        obtain ⟨a, vs, e, h1, ra⟩ := asL_rep s2 r3 q1
        exact ⟨a, k, vs, e, rfl, h1, of_decide_eq_true hl.1, of_decide_eq_true hl.2.1, by rw [ra.length]; exact of_decide_eq_true hl.2.2, fun p hp => h2 w2 rfl (.refl w2) s2 _ p (ra.rep _) hp⟩
      · rw [if_neg hl] at h2
        exact h2.elim
    | _ => exact h2.elim
end
end Py

set_option maxHeartbeats 4000000
/-! PyH: what changes lists, membership, calls with keywords, constants of the module. -/
namespace Py
open PySem PySem.Spec PyProof.Rows L2

/-! ### a list of the store is changed -/
/-- by k: what it then holds, and what is told -/
def chg (k : List D → Option (List D × D)) (d : D) (S : Store) : R D := match d with
  | .ref n => (match S[n]? with
    | some (.lst xs) => (match k xs with | some (ys, r) => .ok r (S.set n (.lst ys)) | none => .bad)
    | _ => .bad)
  | _ => .bad
theorem chg_mute {k : List D → Option (List D × D)} {d : D} {S : Store} {c : Nat} {v : D} {S' : Store} : chg k d S ≠ .err c v S' := by
  unfold chg
  split
  · split
    · split <;> simp
    · simp
  · simp
section
variable {X : Cx} {ca : Nat → Addr} {W : WX} {pos p apos : Pos} {f g h o i : Den} {gs hs : Dens} {a b e eo ei : Expr} {es : List Expr} {w : Wd}
theorem chg_extO {n : Nat} {o0 o : O} {u : HO} (s : SOk X.K ca w) (h : w.S[n]? = some o0) (nd : o0 ≠ .dead) (r : ORep X.K ca w (some u) o) :
    let w' : Wd := ⟨upd w.H (w.ρ n) u, w.ρ, w.S.set n o⟩
    Ext w w' ∧ SOk X.K ca w' := by
  intro w'
  have hM : w.M (w.ρ n) := ⟨n, o0, h, nd, rfl⟩
  have hn : n < w.S.length := (List.getElem?_eq_some_iff.mp h).1
  have old : ∀ m o', w'.S[m]? = some o' → m = n ∧ o' = o ∨ m ≠ n ∧ w.S[m]? = some o' := fun m o' q => by
    have q' : (w.S.set n o)[m]? = some o' := q
    by_cases e : m = n
    · subst e
      rw [List.getElem?_set_self hn] at q'
      exact .inl ⟨rfl, (Option.some.inj q').symm⟩
    · rw [List.getElem?_set_ne (Ne.symm e)] at q'
      exact .inr ⟨e, q'⟩
  have x : Ext w w' := {
    keep := fun a o' q nM => by
      have : a ≠ w.ρ n := fun z => nM (by rw [z]; exact hM)
      show upd w.H (w.ρ n) u a = some o'
      rw [upd_ne this]; exact q
    fresh := fun a m => by
      obtain ⟨k, o', q, nd', e⟩ := m
      rcases old k o' q with ⟨rfl, _⟩ | ⟨_, q⟩
      · exact .inl (by rw [← e]; exact hM)
      · exact .inl ⟨k, o', q, nd', e⟩
    rho := fun _ _ => rfl
    len := by show w.S.length ≤ (w.S.set n o).length; rw [List.length_set]; exact Nat.le_refl _ }
  refine ⟨x, ?_, ?_⟩
  · intro m o' q
    rcases old m o' q with ⟨rfl, rfl⟩ | ⟨e, q0⟩
    · show ORep X.K ca w' (upd w.H (w.ρ m) u (w.ρ m)) o'
      rw [upd_same]
      exact r.mono x s
    · by_cases nd' : o' = .dead
      · subst nd'; exact trivial
      · show ORep X.K ca w' (upd w.H (w.ρ n) u (w.ρ m)) o'
        rw [upd_ne (fun z => e (s.inj' m n o' o0 q0 h nd' nd z))]
        exact (s.liv m o' q0).mono x s
  · intro m k o1 o2 q1 q2 d1 d2 e
    have one : ∀ (m : Nat) (o' : O), w'.S[m]? = some o' → o' ≠ O.dead → ∃ t : O, w.S[m]? = some t ∧ t ≠ O.dead := fun m o' q nd' => by
      rcases old m o' q with ⟨rfl, _⟩ | ⟨_, q⟩
      · exact ⟨_, h, nd⟩
      · exact ⟨_, q, nd'⟩
    obtain ⟨t1, k1, n1⟩ := one m o1 q1 d1
    obtain ⟨t2, k2, n2⟩ := one k o2 q2 d2
    exact s.inj' m k t1 t2 k1 k2 n1 n2 e
theorem chg_ext {n : Nat} {xs ys : List D} {vs : List V} (s : SOk X.K ca w) (h : w.S[n]? = some (.lst xs)) (r : RepL X.K ca w vs ys) :
    let w' : Wd := ⟨upd w.H (w.ρ n) (.lst vs), w.ρ, w.S.set n (.lst ys)⟩
    Ext w w' ∧ SOk X.K ca w' := chg_extO s h (fun z => by cases z) ⟨vs, rfl, r⟩
theorem chg_of {k : List D → Option (List D × D)} {d : D} {v : V} {Q : D → Store → Prop} {E : Nat → D → Store → Prop} (s : SOk X.K ca w) (r : Rep X.K ca w v d) (h : Sat (chg k d w.S) Q E) :
    ∃ n xs ys z vs, v = .ref (w.ρ n) ∧ w.S[n]? = some (.lst xs) ∧ w.H (w.ρ n) = some (.lst vs) ∧ RepL X.K ca w vs xs ∧ k xs = some (ys, z) ∧ Q z (w.S.set n (.lst ys)) := by
  unfold chg at h
  cases r with
  | @ref n hn =>
    dsimp only at h
    cases q : w.S[n]? with
    | none => rw [q] at h; exact h.elim
    | some o =>
      cases o with
      | dead => rw [q] at h; exact h.elim
      | dct _ _ => rw [q] at h; exact h.elim
      | lst xs =>
        rw [q] at h
        dsimp only at h
        cases q2 : k xs with
        | none => rw [q2] at h; exact h.elim
        | some yz =>
          obtain ⟨ys, z⟩ := yz
          rw [q2] at h
          obtain ⟨vs, hv, rv⟩ := s.live n xs q
          exact ⟨n, xs, ys, z, vs, rfl, q, hv, rv, q2, h⟩
  | _ => exact h.elim
end
def kSet (i v : D) : List D → Option (List D × D) := fun xs => match i with | .int j => (ixN xs.length j).map fun m => (xs.set m v, .non) | _ => none
def kApp (v : D) : List D → Option (List D × D) := fun xs => if xs.length < sizeLine then some (xs ++ [v], .non) else none
def kPop : List D → Option (List D × D) := fun xs => xs.getLast?.map fun v => (xs.dropLast, v)
def kPopAt (i : D) : List D → Option (List D × D) := fun xs => match i with | .int j => if inR j then (ixN xs.length j).bind fun m => xs[m]?.map fun v => (xs.eraseIdx m, v) else none | _ => none
def kIns (i v : D) : List D → Option (List D × D) := fun xs => match i with | .int j => if xs.length < sizeLine ∧ 0 ≤ j ∧ j < 2 ^ 62 then some (xs.take j.toNat ++ [v] ++ xs.drop j.toNat, .non) else none | _ => none
def kExt (zs : List D) : List D → Option (List D × D) := fun xs => if xs.length + zs.length ≤ sizeLine then some (xs ++ zs, .non) else none
/-- o[i] = v: v, o, i in this order -/
def eSetI (f o i : Den) : Den := fun e S => (f e S).bind fun v S1 => (o e S1).bind fun d S2 => (i e S2).bind fun k S3 => chg (kSet k v) d S3
def eApp (o f : Den) : Den := fun e S => (o e S).bind fun d S1 => (f e S1).bind fun v S2 => chg (kApp v) d S2
def ePop (o : Den) : Den := fun e S => (o e S).bind fun d S1 => chg kPop d S1
def ePopAt (o i : Den) : Den := fun e S => (o e S).bind fun d S1 => (i e S1).bind fun k S2 => chg (kPopAt k) d S2
def eIns (o i f : Den) : Den := fun e S => (o e S).bind fun d S1 => (i e S1).bind fun k S2 => (f e S2).bind fun v S3 => chg (kIns k v) d S3
def eExt (o f : Den) : Den := fun e S => (o e S).bind fun d S1 => (f e S1).bind fun v S2 => match asL v S2 with | some zs => chg (kExt zs) d S2 | none => .bad
section
variable {X : Cx} {ca : Nat → Addr} {W : WX} {pos p apos cpos : Pos} {f g h o i : Den} {gs hs : Dens} {a b e eo ei : Expr} {es : List Expr} {w : Wd}
theorem s_setI (ha : PE X a (tE X.K ca W f)) (ho : PE X eo (tE X.K ca W o)) (hi : PE X ei (tE X.K ca W i))
    (has : ∀ v, assign (.Subscript eo ei p) X.env v = (do
      let ov ← holding [v] (eval eo X.env)
      let iv ← holding [v, ov] (eval ei X.env)
      standAt p
      holding [v, ov, iv] (setItem ov iv v)
      release [v, ov, iv] []) := by intro _; rfl)
    (hs : swapsWithSole [.Subscript eo ei p] a pos.line X.env = pure false := by rfl) (hw : swappedStores [.Subscript eo ei p] a X.env = pure none := by rfl)
    (h1 : (assignEach [.Subscript eo ei p] X.env).map (·.2) = [assign (.Subscript eo ei p) X.env] := by rfl) : PS X (.Assign [.Subscript eo ei p] a pos) (tS X.K ca W (sExpr (eSetI f o i))) :=
  PS.imp (ps_asg ha (pg_sub ho hi set_list has) hs hw h1) fun U σ H ⟨w, env, e, s, m, h⟩ => by
    have key : SatS X.K ca (match (f env w.S).bind fun v S1 => (o env S1).bind fun d S2 => (i env S2).bind fun k S3 => chg (kSet k v) d S3 with | .ok d S1 => RS.next env S1 | .err c v S1 => .err c v env S1 | .bad => .bad) w U W := h
    refine tE_then (k := fun v S1 => match ((o env S1).bind fun d S2 => (i env S2).bind fun k S3 => chg (kSet k v) d S3) with | .ok d S1 => RS.next env S1 | .err c v S1 => .err c v env S1 | .bad => .bad) e s m (by
      cases q : f env w.S with
      | ok d S1 => rw [q] at key; exact key
      | err c v S1 => rw [q] at key; exact key
      | bad => rw [q] at key; exact key) fun w1 v vv s1 m1 r1 x1 q1 => ?_
    refine tE_then (f := o) (k := fun d S2 => match ((i env S2).bind fun k S3 => chg (kSet k v) d S3) with | .ok d S1 => RS.next env S1 | .err c v S1 => .err c v env S1 | .bad => .bad) rfl s1 m1 (by
      cases q : o env w1.S with
      | ok d S1 => rw [q] at q1; exact q1
      | err c v S1 => rw [q] at q1; exact q1
      | bad => rw [q] at q1; exact q1) fun w2 d dv s2 m2 r2 x2 q2 => ?_
    refine tE_then (f := i) (k := fun k S3 => match (chg (kSet k v) d S3) with | .ok d S1 => RS.next env S1 | .err c v S1 => .err c v env S1 | .bad => .bad) rfl s2 m2 (by
      cases q : i env w2.S with
      | ok d S1 => rw [q] at q2; exact q2
      | err c v S1 => rw [q] at q2; exact q2
      | bad => rw [q] at q2; exact q2) fun w3 k kv s3 m3 r3 x3 q3 => ?_
    have q4 : Sat (chg (kSet k v) d w3.S) (fun _ S => SatS X.K ca (.next env S) w3 U W) (fun _ _ _ => False) := by
      cases q : chg (kSet k v) d w3.S with
      | ok d S1 => rw [q] at q3; exact q3
      | err c v S1 => exact absurd q chg_mute
      | bad => rw [q] at q3; exact q3
    obtain ⟨n, xs, ys, z, vs, e1, e2, e3, e4, e5, q5⟩ := chg_of s3 (r2.mono x3 s2) q4
    unfold kSet at e5
    cases r3 with
    | int j =>
      dsimp only at e5
      cases q : ixN xs.length j with
      | none => rw [q] at e5; cases e5
      | some t =>
        rw [q] at e5
        cases e5
        refine ⟨_, vs, j, t, e1, rfl, e3, by rw [e4.length]; exact q, ?_⟩
        have rv := (r1.mono x2 s1).mono x3 s2
        obtain ⟨y, sy⟩ := chg_ext (ys := xs.set t v) (vs := vs.set t vv) s3 e2 (e4.set t rv)
        exact q5 _ rfl y sy σ (m3.mono y s3)
    | _ => cases e5
theorem tyL {w : Wd} {a : Addr} {vs : List V} (h : w.H a = some (.lst vs)) : tyV X.K "list" (.ref a) w.H := .inl ⟨rfl, vs, .inl (.inl h)⟩
theorem isL_of {w : Wd} {d : D} {v : V} (s : SOk X.K ca w) (r : Rep X.K ca w v d) (n : Nat) (hd : d = .ref n) (xs : List D) (h : w.S[n]? = some (.lst xs)) : tyV X.K "list" v w.H := by
  subst hd
  cases r with
  | ref hn =>
    obtain ⟨vs, hv, _⟩ := s.live n xs h
    exact tyL (X := X) hv
/-- a receiver that is a list of the store at its own time -/
def rcv (o : Den) : Den := fun e S => (o e S).bind fun d S1 => match d with | .ref n => (match S1[n]? with | some (.lst _) => .ok d S1 | _ => .bad) | _ => .bad
theorem rcv_imp {σ : St} {H : Hp} {Q : VK} (h : tE X.K ca W (rcv o) σ H Q) : tE X.K ca W o σ H fun x H1 => tyV X.K "list" x H1 ∧ Q x H1 := by
  obtain ⟨w, env, e, s, m, h⟩ := h
  refine tE_bind (Qb := fun w => QV X.K ca w Q) e s m h (fun e q => QV.later e q) fun w1 d v s1 m1 r e1 h1 => ?_
  cases r with
  | @ref n hn =>
    dsimp only at h1
    cases q : w1.S[n]? with
    | none => rw [q] at h1; exact h1.elim
    | some u =>
      cases u with
      | dead => rw [q] at h1; exact h1.elim
      | dct _ _ => rw [q] at h1; exact h1.elim
      | lst xs =>
        rw [q] at h1
        exact ⟨isL_of s1 (.ref hn) n rfl xs q, sat_here s1 h1 (.ref hn)⟩
  | _ => exact h1.elim
theorem e_app (ho : PE X eo (tE X.K ca W o)) (ha : PE X a (tE X.K ca W f))
    (hbase : attributeBase eo "append" X.env (eval eo X.env) = eval eo X.env := by rfl)
    (hfew : ((backTo cpos (starEach [a] X.env)).all (fun x => !x.1) && (backToKw cpos (keywordEach [] X.env)).all (fun x => x.1.isSome)
      && decide ([a].length + ([] : List Keyword).length + (if ([] : List Keyword).isEmpty then 0 else 1) < 30)) = true := by rfl)
    (hline : (apos.endLine == cpos.line) = true := by rfl) (hs : starEach [a] X.env = (false, eval a X.env) :: starEach [] X.env := by rfl) (hplain : (backTo cpos (starEach [] X.env)).any (·.1) = false := by rfl) :
    PE X (.Call (.Attribute eo "append" apos) [a] [] cpos) (tE X.K ca W (eApp (rcv o) f)) :=
  PE.imp (pe_bm PySem.F.plainAttrs_list PySem.F.slot_list_append PySem.F.type_list_append mt_append ho (pa_cons ha pa_nil hs) hbase hfew hline hs hplain) fun σ H Q ⟨w, env, e, s, m, h⟩ => by
    refine rcv_imp (tE_bind (Qb := fun w => QV X.K ca w Q) e s m h (fun e q => QV.later e q) fun w1 d v s1 m1 r e1 h1 => ?_)
    refine tE_bind (Qb := fun w => QV X.K ca w Q) rfl s1 m1 h1 (fun e q => QV.later e q) fun w2 d2 v2 s2 m2 r2 e2 h2 => ?_
    obtain ⟨n, xs, ys, z, vs, k1, k2, k3, k4, k5, q5⟩ := chg_of s2 (r.mono e2 s1) h2
    unfold kApp at k5
    by_cases hl : xs.length < sizeLine
    · rw [if_pos hl] at k5
      cases k5
      refine ⟨_, vs, v2, k1, rfl, k3, by rw [k4.length]; exact hl, ?_⟩
      obtain ⟨y, sy⟩ := chg_ext (ys := xs ++ [d2]) (vs := vs ++ [v2]) s2 k2 (k4.append (.cons r2 .nil))
      exact q5 _ rfl y sy .non .non
    · rw [if_neg hl] at k5
      cases k5
theorem e_pop (ho : PE X eo (tE X.K ca W o))
    (hbase : attributeBase eo "pop" X.env (eval eo X.env) = eval eo X.env := by rfl) (hline : (apos.endLine == cpos.line) = true := by rfl) :
    PE X (.Call (.Attribute eo "pop" apos) [] [] cpos) (tE X.K ca W (ePop o)) :=
  PE.imp (pe_bm0 PySem.F.plainAttrs_list PySem.F.slot_list_pop PySem.F.type_list_pop mt_pop ho hbase hline) fun σ H Q ⟨w, env, e, s, m, h⟩ => by
    refine tE_bind (Qb := fun w => QV X.K ca w Q) e s m h (fun e q => QV.later e q) fun w2 d v s2 m2 r e1 h2 => ?_
    obtain ⟨n, xs, ys, z, vs, k1, k2, k3, k4, k5, q5⟩ := chg_of s2 r h2
    unfold kPop at k5
    cases q : xs.getLast? with
    | none => rw [q] at k5; cases k5
    | some l =>
      rw [q] at k5
      cases k5
      rw [List.getLast?_eq_getElem?] at q
      obtain ⟨y, hy, ry⟩ := k4.get q
      have rd : RepL X.K ca w2 vs.dropLast xs.dropLast := by
        rw [List.dropLast_eq_take, List.dropLast_eq_take, k4.length]
        exact k4.take _
      obtain ⟨y1, sy⟩ := chg_ext (ys := xs.dropLast) (vs := vs.dropLast) s2 k2 rd
      subst k1
      exact ⟨tyL (X := X) k3, _, vs, y, rfl, rfl, k3, by rw [k4.length]; exact hy, q5 _ rfl y1 sy y (ry.mono y1 s2)⟩
theorem e_popAt (ho : PE X eo (tE X.K ca W o)) (ha : PE X a (tE X.K ca W f))
    (hbase : attributeBase eo "pop" X.env (eval eo X.env) = eval eo X.env := by rfl)
    (hfew : ((backTo cpos (starEach [a] X.env)).all (fun x => !x.1) && (backToKw cpos (keywordEach [] X.env)).all (fun x => x.1.isSome)
      && decide ([a].length + ([] : List Keyword).length + (if ([] : List Keyword).isEmpty then 0 else 1) < 30)) = true := by rfl)
    (hline : (apos.endLine == cpos.line) = true := by rfl) (hs : starEach [a] X.env = (false, eval a X.env) :: starEach [] X.env := by rfl) (hplain : (backTo cpos (starEach [] X.env)).any (·.1) = false := by rfl) :
    PE X (.Call (.Attribute eo "pop" apos) [a] [] cpos) (tE X.K ca W (ePopAt (rcv o) f)) :=
  PE.imp (pe_bm PySem.F.plainAttrs_list PySem.F.slot_list_pop PySem.F.type_list_pop mt_popAt ho (pa_cons ha pa_nil hs) hbase hfew hline hs hplain) fun σ H Q ⟨w, env, e, s, m, h⟩ => by
    refine rcv_imp (tE_bind (Qb := fun w => QV X.K ca w Q) e s m h (fun e q => QV.later e q) fun w1 d v s1 m1 r e1 h1 => ?_)
    refine tE_bind (Qb := fun w => QV X.K ca w Q) rfl s1 m1 h1 (fun e q => QV.later e q) fun w2 d2 v2 s2 m2 r2 e2 h2 => ?_
    obtain ⟨n, xs, ys, z, vs, k1, k2, k3, k4, k5, q5⟩ := chg_of s2 (r.mono e2 s1) h2
    unfold kPopAt at k5
    cases r2 with
    | int j =>
      dsimp only at k5
      by_cases hj : inR j = true
      · rw [if_pos hj] at k5
        obtain ⟨j1, j2⟩ := inR_ok hj
        cases q : ixN xs.length j with
        | none => rw [q] at k5; cases k5
        | some t =>
          rw [q, Option.bind_some] at k5
          cases q2 : xs[t]? with
          | none => rw [q2] at k5; cases k5
          | some l =>
            rw [q2] at k5
            cases k5
            obtain ⟨y, hy, ry⟩ := k4.get q2
            have rd : RepL X.K ca w2 (vs.eraseIdx t) (xs.eraseIdx t) := by
              rw [List.eraseIdx_eq_take_drop_succ, List.eraseIdx_eq_take_drop_succ]
              exact (k4.take _).append (k4.drop _)
            obtain ⟨y1, sy⟩ := chg_ext (ys := xs.eraseIdx t) (vs := vs.eraseIdx t) s2 k2 rd
            exact ⟨_, vs, j, t, y, k1, rfl, k3, by omega, by omega, by rw [k4.length]; exact (ixN_seq q).1, hy, q5 _ rfl y1 sy y (ry.mono y1 s2)⟩
      · rw [if_neg hj] at k5
        cases k5
    | _ => cases k5
theorem e_ins (ho : PE X eo (tE X.K ca W o)) (ha : PE X a (tE X.K ca W i)) (hb : PE X b (tE X.K ca W f))
    (hbase : attributeBase eo "insert" X.env (eval eo X.env) = eval eo X.env := by rfl)
    (hfew : ((backTo cpos (starEach [a, b] X.env)).all (fun x => !x.1) && (backToKw cpos (keywordEach [] X.env)).all (fun x => x.1.isSome)
      && decide ([a, b].length + ([] : List Keyword).length + (if ([] : List Keyword).isEmpty then 0 else 1) < 30)) = true := by rfl)
    (hline : (apos.endLine == cpos.line) = true := by rfl) (hs : starEach [a, b] X.env = (false, eval a X.env) :: starEach [b] X.env := by rfl) (hs2 : starEach [b] X.env = (false, eval b X.env) :: starEach [] X.env := by rfl) (hplain : (backTo cpos (starEach [b] X.env)).any (·.1) = false := by rfl) :
    PE X (.Call (.Attribute eo "insert" apos) [a, b] [] cpos) (tE X.K ca W (eIns (rcv o) i f)) :=
  PE.imp (pe_bm PySem.F.plainAttrs_list PySem.F.slot_list_insert PySem.F.type_list_insert mt_insert ho (pa_cons ha (pa_cons hb pa_nil hs2) hs) hbase hfew hline hs hplain) fun σ H Q ⟨w, env, e, s, m, h⟩ => by
    refine rcv_imp (tE_bind (Qb := fun w => QV X.K ca w Q) e s m h (fun e q => QV.later e q) fun w1 d v s1 m1 r e1 h1 => ?_)
    refine tE_bind (Qb := fun w => QV X.K ca w Q) rfl s1 m1 h1 (fun e q => QV.later e q) fun w2 d2 v2 s2 m2 r2 e2 h2 => ?_
    refine tE_bind (f := f) (Qb := fun w => QV X.K ca w Q) rfl s2 m2 h2 (fun e q => QV.later e q) fun w3 d3 v3 s3 m3 r3 e3 h3 => ?_
    obtain ⟨n, xs, ys, z, vs, k1, k2, k3, k4, k5, q5⟩ := chg_of s3 ((r.mono e2 s1).mono e3 s2) h3
    unfold kIns at k5
    cases r2 with
    | int j =>
      dsimp only at k5
      by_cases hj : xs.length < sizeLine ∧ 0 ≤ j ∧ j < 2 ^ 62
      · rw [if_pos hj] at k5
        cases k5
        obtain ⟨y1, sy⟩ := chg_ext (ys := xs.take j.toNat ++ [d3] ++ xs.drop j.toNat) (vs := vs.take j.toNat ++ [v3] ++ vs.drop j.toNat) s3 k2 (((k4.take _).append (.cons r3 .nil)).append (k4.drop _))
        exact ⟨_, vs, j, v3, k1, rfl, k3, by rw [k4.length]; exact hj.1, hj.2.1, by omega, q5 _ rfl y1 sy .non .non⟩
      · rw [if_neg hj] at k5
        cases k5
    | _ => cases k5
theorem e_ext (ho : PE X eo (tE X.K ca W o)) (ha : PE X a (tE X.K ca W f))
    (hbase : attributeBase eo "extend" X.env (eval eo X.env) = eval eo X.env := by rfl)
    (hfew : ((backTo cpos (starEach [a] X.env)).all (fun x => !x.1) && (backToKw cpos (keywordEach [] X.env)).all (fun x => x.1.isSome)
      && decide ([a].length + ([] : List Keyword).length + (if ([] : List Keyword).isEmpty then 0 else 1) < 30)) = true := by rfl)
    (hline : (apos.endLine == cpos.line) = true := by rfl) (hs : starEach [a] X.env = (false, eval a X.env) :: starEach [] X.env := by rfl) (hplain : (backTo cpos (starEach [] X.env)).any (·.1) = false := by rfl) :
    PE X (.Call (.Attribute eo "extend" apos) [a] [] cpos) (tE X.K ca W (eExt (rcv o) f)) :=
  PE.imp (pe_bm PySem.F.plainAttrs_list PySem.F.slot_list_extend PySem.F.type_list_extend mt_extend ho (pa_cons ha pa_nil hs) hbase hfew hline hs hplain) fun σ H Q ⟨w, env, e, s, m, h⟩ => by
    refine rcv_imp (tE_bind (Qb := fun w => QV X.K ca w Q) e s m h (fun e q => QV.later e q) fun w1 d v s1 m1 r e1 h1 => ?_)
    refine tE_bind (Qb := fun w => QV X.K ca w Q) rfl s1 m1 h1 (fun e q => QV.later e q) fun w2 d2 v2 s2 m2 r2 e2 h2 => ?_
    cases q : asL d2 w2.S with
    | none => rw [q] at h2; exact h2.elim
    | some zs =>
      rw [q] at h2
      obtain ⟨b, us, f1, f2, f3⟩ := asL_rep s2 r2 q
      obtain ⟨n, xs, ys, z, vs, k1, k2, k3, k4, k5, q5⟩ := chg_of s2 (r.mono e2 s1) h2
      unfold kExt at k5
      by_cases hl : xs.length + zs.length ≤ sizeLine
      · rw [if_pos hl] at k5
        cases k5
        subst f1
        refine ⟨_, b, vs, us, k1, rfl, k3, f2, by rw [k4.length, f3.length]; exact hl, ?_⟩
        obtain ⟨y, sy⟩ := chg_ext (ys := xs ++ zs) (vs := vs ++ us) s2 k2 (k4.append f3)
        exact q5 _ rfl y sy .non .non
      · rw [if_neg hl] at k5
        cases k5
end

/-! ### x += e, xs[i] += e -/
def sAug (i : Nat) (o : Int → Int → Int) (f : Den) : DenS := fun e S => match e[i]? with
  | some (some (.int a)) => (match f e S with | .ok (.int b) S1 => .next (e.set i (some (.int (o a b)))) S1 | .err c v S1 => .err c v e S1 | _ => .bad)
  | _ => .bad
def optR {α β : Type} (x : Option α) (k : α → R β) : R β := match x with | some a => k a | none => .bad
def asI : D → Option Int | .int i => some i | _ => none
def augGet (d j : D) (S : Store) : Option Int := match d, j with
  | .ref n, .int j => if 0 ≤ j ∧ j < 2 ^ 62 then (match S[n]? with
    | some (.lst xs) => (match xs[j.toNat]? with
      | some (.int a) => some a
      | _ => none)
    | _ => none) else none
  | _, _ => none
theorem augGet_of {d j : D} {S : Store} {a : Int} (h : augGet d j S = some a) : ∃ n i xs, d = .ref n ∧ j = .int i ∧ 0 ≤ i ∧ i < 2 ^ 62 ∧ S[n]? = some (.lst xs) ∧ xs[i.toNat]? = some (.int a) := by
  unfold augGet at h
  split at h
  · rename_i n i
    split at h
    · rename_i hi
      split at h
      · rename_i xs hx
        split at h
        · rename_i c hc
          cases h
          exact ⟨n, i, xs, rfl, rfl, hi.1, hi.2, hx, hc⟩
        · cases h
      · cases h
    · cases h
  · cases h
def augF (f : Den) (k : Int → Int → Int) (d j : D) (e : Env) (a : Int) (S : Store) : R D := (f e S).bind fun b S3 => optR (asI b) fun b => chg (kSet j (.int (k a b))) d S3
def augJ (f : Den) (k : Int → Int → Int) (d j : D) (e : Env) (S : Store) : R D := optR (augGet d j S) fun a => augF f k d j e a S
def eAugI (o i : Den) (k : Int → Int → Int) (f : Den) : Den := fun e S => (o e S).bind fun d S1 => (i e S1).bind fun j S2 => augJ f k d j e S2
section
variable {X : Cx} {ca : Nat → Addr} {W : WX} {pos p pos' apos cpos : Pos} {f g h o i : Den} {gs hs : Dens} {a b e eo ei : Expr} {es : List Expr} {w : Wd}
theorem s_aug {i : Nat} {x : Str} {op : Operator} {k : Int → Int → Int} (ho : PIp X op (ipI k)) (hN : X.N.Nodup) (hi : X.N[i]? = some x) (hx : Loc X.env.scope x) (he : PE X a (tE X.K ca W f))
    (hf : X.fn x = true ∨ X.env.scope.names.lookup x = some .local := by first | exact .inl rfl | exact .inr rfl | assumption) : PS X (.AugAssign (.Name x pos') op a pos) (tS X.K ca W (sAug i k f)) :=
  PS.imp (ps_aug hN hi hx he ho hf) fun U σ H ⟨w, env, e, s, m, h⟩ => by
    unfold sAug at h
    cases q : env[i]? with
    | none => rw [q] at h; exact h.elim
    | some od =>
      cases od with
      | none => rw [q] at h; exact h.elim
      | some d =>
        rw [q] at h
        cases d with
        | int a =>
          obtain ⟨v, hv, rv⟩ := m.2 i _ q
          cases rv
          refine ⟨_, hv, ?_⟩
          dsimp only at h
          refine tE_then (k := fun d S1 => match d with | .int b => RS.next (env.set i (some (.int (k a b)))) S1 | _ => .bad) e s m (by
            cases q2 : f env w.S with
            | ok d S1 => rw [q2] at h; cases d <;> exact h
            | err c v S1 => rw [q2] at h; exact h
            | bad => rw [q2] at h; exact h) fun w1 d v s1 m1 r x1 q => ?_
          cases r with
          | int b => exact ⟨a, b, rfl, rfl, Aft.here (w' := w1) q (.refl w1) s1 _ (m1.set i (.int _))⟩
          | _ => exact q.elim
        | _ => exact h.elim
/-- the item of a list at a place from 0 on -/
theorem get_list0 : PGet X (fun x y H Q => ∃ p xs i v, x = .ref p ∧ y = .int i ∧ SqL X.K H p xs ∧ 0 ≤ i ∧ i < 2 ^ 63 ∧ xs[i.toNat]? = some v ∧ Q v H) := by
  intro pins s σ H x y v u Q I rx ry h
  obtain ⟨p, xs, i, z, rfl, rfl, hq, h0, h1, he, q⟩ := h
  cases rx
  obtain ⟨t, rfl⟩ := ry
  obtain ⟨its, r, pl, hz⟩ := I.list hq
  obtain ⟨w, ew, rw'⟩ := r.get he
  exact wpAny_getItem_list pl.isList h0 h1 (by simpa using ew) ⟨z, H, I, rw', q⟩
/-- a reading of a Den given as a statement -/
def rs (env : Env) (r : R D) : RS := match r with | .ok _ S1 => .next env S1 | .err c v S1 => .err c v env S1 | .bad => .bad
theorem rs_then {w : Wd} {env : Env} {σ : St} {H : Hp} {R : V → Hp → Prop} {U : Ends} {k : D → Store → Py.R D} (e : w.H = H) (s : SOk X.K ca w) (m : Sim X.K ca w env σ)
    (h : SatS X.K ca (rs env ((f env w.S).bind k)) w U W)
    (hr : ∀ w1 d v, SOk X.K ca w1 → Sim X.K ca w1 env σ → Rep X.K ca w1 v d → Ext w w1 → SatS X.K ca (rs env (k d w1.S)) w1 U W → R v w1.H) : tE X.K ca W f σ H R :=
  tE_then (k := fun d S => rs env (k d S)) e s m (by
    cases q : f env w.S with
    | ok d S1 => rw [q] at h; exact h
    | err c v S1 => rw [q] at h; exact h
    | bad => rw [q] at h; exact h) hr
theorem s_augI {op : Operator} {k : Int → Int → Int} (hop : PIp X op (ipI k)) (ho : PE X eo (tE X.K ca W o)) (hi : PE X ei (tE X.K ca W i)) (he : PE X a (tE X.K ca W f))
    (ha : ∀ ov iv new, augStore ei ov iv new = (do holding [new, ov, iv] (setItem ov iv new); release [new, ov, iv] []; pure .next) := by intros; rfl) : PS X (.AugAssign (.Subscript eo ei p) op a pos) (tS X.K ca W (sExpr (eAugI o i k f))) :=
  PS.imp (ps_augS ho hi get_list0 he hop set_list ha) fun U σ H ⟨w, env, e, s, m, h⟩ => by
    refine rs_then e s m h fun w1 d dv s1 m1 r1 x1 q1 => ?_
    refine rs_then rfl s1 m1 q1 fun w2 j jv s2 m2 r2 x2 q2 => ?_
    have r1' := r1.mono x2 s1
    unfold augJ at q2
    cases z : augGet d j w2.S with
    | none => rw [z] at q2; exact q2.elim
    | some c =>
      rw [z] at q2
      obtain ⟨n, i, xs, rfl, rfl, h0, h1, hS, hx⟩ := augGet_of z
      obtain ⟨vs, hv, rv⟩ := s2.live n xs hS
      obtain ⟨cv, hc, rc⟩ := rv.get hx
      cases rc
      cases r2
      cases r1' with
      | ref hn =>
        refine ⟨_, vs, i, _, rfl, rfl, .inl (.inl hv), h0, by omega, hc, ?_⟩
        refine rs_then rfl s2 m2 q2 fun w3 b bv s3 m3 r3 x3 q3 => ?_
        cases r3 with
        | int b =>
          refine ⟨c, b, rfl, rfl, ?_⟩
          have q4 : Sat (chg (kSet (.int i) (.int (k c b))) (.ref n) w3.S) (fun _ S => SatS X.K ca (.next env S) w3 U W) (fun _ _ _ => False) := by
            have q3' : SatS X.K ca (rs env (chg (kSet (.int i) (.int (k c b))) (.ref n) w3.S)) w3 U W := q3
            cases q : chg (kSet (.int i) (.int (k c b))) (.ref n) w3.S with
            | ok d S1 => rw [q] at q3'; exact q3'
            | err c v S1 => exact absurd q chg_mute
            | bad => rw [q] at q3'; exact q3'
          have rr : Rep X.K ca w3 (.ref (w2.ρ n)) (.ref n) := (Rep.ref (K := X.K) (ca := ca) hn).mono x3 s2
          obtain ⟨n', xs', ys, z', vs', e1, e2, e3, e4, e5, q5⟩ := chg_of s3 rr q4
          unfold kSet at e5
          dsimp only at e5
          cases q : ixN xs'.length i with
          | none => rw [q] at e5; cases e5
          | some t =>
            rw [q] at e5
            cases e5
            refine ⟨_, vs', i, t, e1, rfl, e3, by rw [e4.length]; exact q, ?_⟩
            obtain ⟨y, sy⟩ := chg_ext (ys := xs'.set t (.int (k c b))) (vs := vs'.set t (.int (k c b))) s3 e2 (e4.set t (.int _))
            exact q5 _ rfl y sy σ (m3.mono y s3)
        | _ => exact q3.elim
end
end Py

set_option maxHeartbeats 4000000
/-! PyI: what only the value reaches, comprehensions, enumerate, zip, calls by keyword, constants of the module, membership. -/
namespace Py
open PySem PySem.Spec PyProof.Rows L2

/-! ### tidy -/
section
variable {K : PySem.W.Frag} {ca : Nat → Addr} {w w1 w2 : Wd}
mutual
theorem mapR_rep {g : Nat → Option D} (hH : w2.H = w1.H) (hM : ∀ a, w2.M a → w1.M a) (hg : ∀ n d', n < w1.S.length → g n = some d' → Rep K ca w2 (.ref (w1.ρ n)) d') : ∀ {v : V} {d d' : D}, Rep K ca w1 v d → mapR g d = some d' → Rep K ca w2 v d'
  | _, _, d', .non, e => by unfold mapR at e; cases e; exact .non
  | _, _, d', .bl b, e => by unfold mapR at e; cases e; exact .bl b
  | _, _, d', .int i, e => by unfold mapR at e; cases e; exact .int i
  | _, _, d', .str x, e => by unfold mapR at e; cases e; exact .str x
  | _, _, d', .tup (ds := ds) h r, e => by
    unfold mapR at e
    cases q : mapRL g ds with
    | none => rw [q] at e; cases e
    | some es =>
      rw [q] at e
      cases e
      exact .tup (by rw [hH]; exact h) (mapRL_rep hH hM hg r q)
  | _, _, d', .lst (ds := ds) h n r, e => by
    unfold mapR at e
    cases q : mapRL g ds with
    | none => rw [q] at e; cases e
    | some es =>
      rw [q] at e
      cases e
      exact .lst (by rw [hH]; exact h) (fun m => n (hM _ m)) (mapRL_rep hH hM hg r q)
  | _, _, d', .ref (n := n) hn, e => by
    unfold mapR at e
    exact hg n d' hn e
  | _, _, d', .dct (ks := ks) (ds := ds) h n l r, e => by
    unfold mapR at e
    cases q : mapRL g ds with
    | none => rw [q] at e; cases e
    | some es =>
      rw [q] at e
      cases e
      exact .dct (by rw [hH]; exact h) (fun m => n (hM _ m)) l (mapRL_rep hH hM hg r q)
  | _, _, d', .fls h, e => by unfold mapR at e; cases e; exact .fls (by rw [hH]; exact h)
  | _, _, d', .exc (x := x) h1 h2 n1 n2 r, e => by
    unfold mapR at e
    cases q : mapR g x with
    | none => rw [q] at e; cases e
    | some es =>
      rw [q] at e
      cases e
      exact .exc (by rw [hH]; exact h1) (by rw [hH]; exact h2) (fun m => n1 (hM _ m)) (fun m => n2 (hM _ m)) (mapR_rep hH hM hg r q)
theorem mapRL_rep {g : Nat → Option D} (hH : w2.H = w1.H) (hM : ∀ a, w2.M a → w1.M a) (hg : ∀ n d', n < w1.S.length → g n = some d' → Rep K ca w2 (.ref (w1.ρ n)) d') : ∀ {vs : List V} {ds ds' : List D}, RepL K ca w1 vs ds → mapRL g ds = some ds' → RepL K ca w2 vs ds'
  | _, _, ds', .nil, e => by unfold mapRL at e; cases e; exact .nil
  | _, _, ds', .cons (d := d) (ds := ds) r t, e => by
    unfold mapRL at e
    cases q : mapR g d with
    | none => rw [q] at e; cases e
    | some y =>
      rw [q] at e
      cases q2 : mapRL g ds with
      | none => rw [q2] at e; cases e
      | some ys =>
        rw [q2] at e
        cases e
        exact .cons (mapR_rep hH hM hg r q) (mapRL_rep hH hM hg t q2)
end
def lowG (m : Nat) : Nat → Option D := fun k => if k < m then some (.ref k) else none
mutual
theorem rep_low : ∀ {v : V} {d : D}, Rep K ca w v d → mapR (lowG w.S.length) d = some d
  | _, _, .non => by unfold mapR; rfl
  | _, _, .bl b => by unfold mapR; rfl
  | _, _, .int i => by unfold mapR; rfl
  | _, _, .str x => by unfold mapR; rfl
  | _, _, .tup h r => by unfold mapR; rw [repL_low r]; rfl
  | _, _, .lst h n r => by unfold mapR; rw [repL_low r]; rfl
  | _, _, .ref hn => by unfold mapR; exact if_pos hn
  | _, _, .fls h => by unfold mapR; rfl
  | _, _, .dct h n l r => by unfold mapR; rw [repL_low r]; rfl
  | _, _, .exc h1 h2 n1 n2 r => by unfold mapR; rw [rep_low r]; rfl
theorem repL_low : ∀ {vs : List V} {ds : List D}, RepL K ca w vs ds → mapRL (lowG w.S.length) ds = some ds
  | _, _, .nil => by unfold mapRL; rfl
  | _, _, .cons r t => by unfold mapRL; rw [rep_low r, repL_low t]; rfl
end
theorem cut_world (x : Ext w w1) (s : SOk K ca w) (s1 : SOk K ca w1) (ho : Old w.S w1.S) :
    let w2 : Wd := ⟨w1.H, w1.ρ, w1.S.take w.S.length⟩
    Ext w w2 ∧ SOk K ca w2 ∧ (∀ a, w2.M a → w1.M a) ∧ (∀ n d', n < w1.S.length → resN w.S.length w1.S 9 n = some d' → Rep K ca w2 (.ref (w1.ρ n)) d') := by
  intro w2
  have hlen : w2.S.length = w.S.length := by
    show (w1.S.take w.S.length).length = w.S.length
    rw [List.length_take]
    exact Nat.min_eq_left x.len
  have at2 : ∀ n o, w2.S[n]? = some o → n < w.S.length ∧ w1.S[n]? = some o := fun n o q => by
    have hn : n < w2.S.length := (List.getElem?_eq_some_iff.mp q).1
    rw [hlen] at hn
    refine ⟨hn, ?_⟩
    have q' : (w1.S.take w.S.length)[n]? = some o := q
    rwa [List.getElem?_take_of_lt hn] at q'
  have hM : ∀ a, w2.M a → w1.M a := fun a ⟨n, xs, q, nd, e⟩ => ⟨n, xs, (at2 n _ q).2, nd, e⟩
  have low : ∀ n d', n < w1.S.length → lowG w.S.length n = some d' → Rep K ca w2 (.ref (w1.ρ n)) d' := fun n d' _ e => by
    unfold lowG at e
    by_cases hn : n < w.S.length
    · rw [if_pos hn] at e
      cases e
      exact Rep.ref (w := w2) (by rw [hlen]; exact hn)
    · rw [if_neg hn] at e; cases e
  have e2 : Ext w w2 := {
    keep := fun a o q nM => x.keep a o q nM
    fresh := fun a m => x.fresh a (hM a m)
    rho := fun n hn => x.rho n hn
    len := Nat.le_of_eq hlen.symm }
  have s2 : SOk K ca w2 := {
    liv := fun n o q => by
      obtain ⟨hn, q1⟩ := at2 n _ q
      cases o with
      | dead => exact trivial
      | lst xs =>
        obtain ⟨vs, hv, rv⟩ := s1.live n xs q1
        refine ⟨vs, hv, ?_⟩
        have hl : mapRL (lowG w.S.length) xs = some xs := by
          rcases ho n hn with z | ⟨ys, z, zl⟩
          · rw [q1] at z
            obtain ⟨us, _, ru⟩ := s.live n xs z.symm
            exact repL_low ru
          · rw [q1] at z
            cases z
            exact zl
        exact mapRL_rep (w1 := w1) (w2 := w2) rfl hM low rv hl
      | dct ks ds =>
        obtain ⟨us, hv, hl1, rv⟩ := s1.liv n _ q1
        refine ⟨us, hv, hl1, ?_⟩
        have hl : mapRL (lowG w.S.length) ds = some ds := by
          rcases ho n hn with z | ⟨ys, z, zl⟩
          · rw [q1] at z
            obtain ⟨us, _, _, ru⟩ := s.liv n _ z.symm
            exact repL_low ru
          · rw [q1] at z
            cases z
        exact mapRL_rep (w1 := w1) (w2 := w2) rfl hM low rv hl
    inj' := fun n m o o' q1 q2 d1 d2 e => s1.inj' n m o o' (at2 n _ q1).2 (at2 m _ q2).2 d1 d2 e }
  refine ⟨e2, s2, hM, ?_⟩
  have all : ∀ f n d', n < w1.S.length → resN w.S.length w1.S f n = some d' → Rep K ca w2 (.ref (w1.ρ n)) d' := by
    intro f
    induction f with
    | zero =>
      intro n d' hn e
      exact low n d' hn e
    | succ f ih =>
      intro n d' hn e
      unfold resN at e
      by_cases hl : n < w.S.length
      · rw [if_pos hl] at e
        exact low n d' hn (by unfold lowG; rw [if_pos hl]; exact e)
      · rw [if_neg hl] at e
        cases q : w1.S[n]? with
        | none => rw [q] at e; cases e
        | some o =>
          cases o with
          | dead => rw [q] at e; cases e
          | dct _ _ => rw [q] at e; cases e
          | lst xs =>
            rw [q] at e
            dsimp only at e
            cases q2 : mapRL (resN w.S.length w1.S f) xs with
            | none => rw [q2] at e; cases e
            | some ys =>
              rw [q2] at e
              cases e
              obtain ⟨vs, hv, rv⟩ := s1.live n xs q
              refine .lst hv (fun ⟨k, zs, qk, nd, ek⟩ => ?_) (mapRL_rep (w1 := w1) (w2 := w2) rfl hM ih rv q2)
              obtain ⟨hk, qk1⟩ := at2 k _ qk
              have := s1.inj' k n zs _ qk1 q nd (fun z => by cases z) ek
              omega
  exact all 9
theorem tidy_imp {r : R D} {Q : VK} {RR : Value → Option Addr → Hp → Prop} (s : SOk K ca w) (h : Sat (tidy w.S r) (QV K ca w Q) (fun c x S => Aft K ca w S fun w' => ∀ cls dd, ExIn K ca w' cls dd c x → RR cls dd w'.H)) :
    Sat r (QV K ca w Q) (fun c x S => Aft K ca w S fun w' => ∀ cls dd, ExIn K ca w' cls dd c x → RR cls dd w'.H) := by
  cases r with
  | bad => exact h
  | ok d S' =>
    unfold tidy at h
    dsimp only at h
    by_cases hl : S'.length ≤ w.S.length
    · rw [if_pos hl] at h; exact h
    · rw [if_neg hl] at h
      cases q : res w.S.length S' d with
      | none => rw [q] at h; exact h
      | some d' =>
        rw [q] at h
        dsimp only at h
        by_cases ho : Old w.S S'
        · rw [if_pos ho] at h
          intro w1 hS x s1 v rv
          subst hS
          obtain ⟨x2, s2, hM, hg⟩ := cut_world x s s1 ho
          exact h ⟨w1.H, w1.ρ, w1.S.take w.S.length⟩ rfl x2 s2 v (mapR_rep (w1 := w1) (w2 := ⟨w1.H, w1.ρ, w1.S.take w.S.length⟩) rfl hM hg rv q)
        · rw [if_neg ho] at h; exact h
  | err c d S' =>
    unfold tidy at h
    dsimp only at h
    by_cases hl : S'.length ≤ w.S.length
    · rw [if_pos hl] at h; exact h
    · rw [if_neg hl] at h
      cases q : res w.S.length S' d with
      | none => rw [q] at h; exact h
      | some d' =>
        rw [q] at h
        dsimp only at h
        by_cases ho : Old w.S S'
        · rw [if_pos ho] at h
          intro w1 hS x s1 cls dd ex
          subst hS
          obtain ⟨x2, s2, hM, hg⟩ := cut_world x s s1 ho
          obtain ⟨e1, a, v, e2, e3, e4, rv⟩ := ex
          exact h ⟨w1.H, w1.ρ, w1.S.take w.S.length⟩ rfl x2 s2 cls dd ⟨e1, a, v, e2, e3, fun m => e4 (hM _ m), mapR_rep (w1 := w1) (w2 := ⟨w1.H, w1.ρ, w1.S.take w.S.length⟩) rfl hM hg rv q⟩
        · rw [if_neg ho] at h; exact h
end
/-- a def whose own lists do not go out -/
theorem fn_tidy {P : Program} {w : World} {K : PySem.W.Frag} {ca : Nat → Addr} {mg : Str → Option Value} {base : Heap} {x qual : Str} {params : Arguments} {body : List Stmt} {scope : Scope} {dvs : List V} {kws : List (Str × V)} {f : Addr} {fd : FuncData} {N ps : List Str} {k i : Nat} {Γ' : Calls} {F : DenS}
    (Fd : FunD K x qual params body scope dvs kws f fd) (S : FnScope N ps scope) (hΓ : ∀ args St, args.length = ps.length → Γ' i args St = runTidy F N.length args St)
    (hb : ∀ (cdv : Value) (A : Around) (outer : List PySem.Env) (s : Shared) (H : Hp) (E : XK), Room k (A.deeper (envOfC qual scope s.heap.objs.size f cdv)) →
      PSs (cxOf (L2N.CX P w) P w K mg base N qual scope f cdv A outer s H E) body (tS K ca (fun cls d _ H => E cls d H) F)) :
    FnOk P w K mg base (L2N.CX P w) (k + 1) f fd ps (spF K ca Γ' i ps.length) := by
  have base0 := fn_body (Γ' := fun _ args St => runBody F N.length args St) (i := i) Fd S (fun _ _ _ => rfl) hb
  refine ⟨fun vs H Q E h => by obtain ⟨_, _, _, hl, _⟩ := h; exact hl, fun A outer s H args us vs Q E hr he hb r h => base0.run A outer s H args us vs Q E hr he hb r ?_⟩
  obtain ⟨w0, ds, e, hl, sk, r, h⟩ := h
  refine ⟨w0, ds, e, hl, sk, r, ?_⟩
  rw [hΓ ds w0.S (by rw [← r.length]; exact hl)] at h
  exact tidy_imp sk h

/-! ### targets of a comprehension -/
section
variable {X : Cx} {ca : Nat → Addr} {W : WX} {pos pos' p apos cpos : Pos} {f g h o i : Den} {gs hs : Dens} {a b e elt eo ei : Expr} {es ifs : List Expr} {w : Wd}
theorem wipe_get : ∀ (σ : St) (vs : List Nat) (i : Nat), (wipe σ vs)[i]? = if i ∈ vs then σ[i]?.map (fun _ => none) else σ[i]?
  | σ, [], i => by simp [wipe]
  | σ, v :: vs, i => by
    unfold wipe
    rw [List.getElem?_set]
    by_cases hv : v = i
    · subst hv
      rw [if_pos rfl, wipe_length]
      by_cases hl : v < σ.length
      · rw [if_pos hl, if_pos List.mem_cons_self, List.getElem?_eq_getElem hl]
        rfl
      · rw [if_neg hl, if_pos List.mem_cons_self, List.getElem?_eq_none (Nat.le_of_not_lt hl)]
        rfl
    · rw [if_neg hv, wipe_get σ vs i]
      have : (i ∈ v :: vs) ↔ i ∈ vs := by simp [Ne.symm hv]
      simp only [this]
theorem wipe_set {σ : St} {vs : List Nat} {i : Nat} {x : Option V} (h : i ∈ vs) : wipe (σ.set i x) vs = wipe σ vs := by
  apply List.ext_getElem?
  intro j
  rw [wipe_get, wipe_get]
  by_cases hj : j ∈ vs
  · rw [if_pos hj, if_pos hj, List.getElem?_set]
    by_cases e : i = j
    · subst e
      rw [if_pos rfl]
      by_cases hl : i < σ.length
      · rw [if_pos hl, List.getElem?_eq_getElem hl]; rfl
      · rw [if_neg hl, List.getElem?_eq_none (Nat.le_of_not_lt hl)]
    · rw [if_neg e]
  · rw [if_neg hj, if_neg hj, List.getElem?_set_ne (fun e => hj (by rw [← e]; exact h))]
theorem wipe_wipe {σ : St} {vs : List Nat} : wipe (wipe σ vs) vs = wipe σ vs := by
  apply List.ext_getElem?
  intro j
  rw [wipe_get, wipe_get]
  by_cases hj : j ∈ vs
  · rw [if_pos hj, if_pos hj, Option.map_map]; rfl
  · rw [if_neg hj, if_neg hj]
theorem Sim.wipe {env : Env} {σ : St} (h : Sim X.K ca w env σ) : ∀ vs : List Nat, Sim X.K ca w (wipeE env vs) (L2.wipe σ vs)
  | [] => h
  | v :: vs => (Sim.wipe h vs).unset v
def tGv (K : PySem.W.Frag) (ca : Nat → Addr) (vs : List Nat) (g : Tgt) : TG := fun v σ H Q => ∃ w env d e', w.H = H ∧ SOk K ca w ∧ Sim K ca w env σ ∧ Rep K ca w v d ∧ g d env w.S = some e' ∧ ∀ σ', Sim K ca w e' σ' → L2.wipe σ' vs = L2.wipe σ vs → Q σ' H
def tGvs (K : PySem.W.Frag) (ca : Nat → Addr) (vs : List Nat) (gs : List Tgt) : TGs := fun us σ H Q => ∃ w env ds e', w.H = H ∧ SOk K ca w ∧ Sim K ca w env σ ∧ RepL K ca w us ds ∧ gAll gs ds env w.S = some e' ∧ ∀ σ', Sim K ca w e' σ' → L2.wipe σ' vs = L2.wipe σ vs → Q σ' H
theorem gv_name {i : Nat} {vs : List Nat} {x : Str} (hv : i ∈ vs) (hN : X.N.Nodup) (hi : X.N[i]? = some x) (hx : Loc X.env.scope x) (hf : X.fn x = true ∨ X.env.scope.names.lookup x = some .local := by first | exact .inl rfl | exact .inr rfl | assumption) : PG X (.Name x pos) (tGv X.K ca vs (gNm i)) :=
  ⟨fun pins s σ H v u Q I r h => (pg_name hN hi hx hf).run pins s σ H v u Q I r (by
    obtain ⟨w, env, d, e', e, sk, m, rp, hg, q⟩ := h
    have he : e' = env.set i (some d) := (Option.some.inj hg).symm
    subst he
    exact q _ (m.set i rp) (wipe_set hv))⟩
theorem gvs_nil {vs : List Nat} : PGs X [] (tGvs X.K ca vs []) := ⟨fun pins s σ H us zs Q I r h => pgs_nil.run pins s σ H us zs Q I r (by
  obtain ⟨w, env, ds, e', e, sk, m, rp, hg, q⟩ := h
  cases rp with
  | nil =>
    have he : e' = env := (Option.some.inj hg).symm
    subst he
    exact ⟨rfl, q _ m rfl⟩
  | cons _ _ => cases hg)⟩
theorem gvs_cons {vs : List Nat} {t : Tgt} {ts : List Tgt} {es : List Expr} (h1 : PG X a (tGv X.K ca vs t)) (h2 : PGs X es (tGvs X.K ca vs ts))
    (hs : (assignEach (a :: es) X.env).map (·.2) = assign a X.env :: (assignEach es X.env).map (·.2) := by rfl) : PGs X (a :: es) (tGvs X.K ca vs (t :: ts)) :=
  ⟨fun pins s σ H us zs Q I r h => (pgs_cons h1 h2 hs).run pins s σ H us zs Q I r (by
    obtain ⟨w, env, ds, e', e, sk, m, rp, hg, q⟩ := h
    cases rp with
    | nil => cases hg
    | @cons v d us ds rv rt =>
      refine ⟨v, us, rfl, ?_⟩
      unfold gAll at hg
      cases z : t d env w.S with
      | none => rw [z] at hg; cases hg
      | some e1 =>
        rw [z] at hg
        exact ⟨w, env, d, e1, e, sk, m, rv, z, fun σ1 m1 k1 => ⟨w, e1, ds, e', e, sk, m1, rt, hg, fun σ2 m2 k2 => q σ2 m2 (k2.trans k1)⟩⟩)⟩
theorem gv_tup {vs : List Nat} {ts : List Tgt} {es : List Expr} {k : Nat} (hc : X.calm = true) (h : PGs X es (tGvs X.K ca vs ts)) (hl : ts.length = es.length := by rfl)
    (hn : (assignEach es X.env).length = es.length := by rfl) (hst : (assignEach es X.env).findIdx? (·.1) = none := by rfl) : PG X (.Tuple es k pos) (tGv X.K ca vs (gTup ts)) :=
  ⟨fun pins s σ H v u Q I r h0 => by
    obtain ⟨w, env, d, e', e, sk, m, rp, hg, q⟩ := h0
    subst e
    cases rp with
    | @tup a us ds hq ra =>
      have hlen := gAll_length hg
      exact (pg_tup hc h (n := es.length) hn hst).run pins s σ w.H _ u Q I r ⟨a, us, rfl, hq, by rw [ra.length, hlen, hl], ⟨w, env, ds, e', rfl, sk, m, ra, hg, q⟩⟩
    | @lst a us ds hq hM ra =>
      have hlen := gAll_length hg
      exact (pg_lst hc h (n := es.length) hn hst).run pins s σ w.H _ u Q I r ⟨a, us, rfl, .inl (.inl hq), by rw [ra.length, hlen, hl], ⟨w, env, ds, e', rfl, sk, m, ra, hg, q⟩⟩
    | _ => cases hg⟩

/-! ### the comprehension -/
abbrev W0 : WX := fun _ _ _ _ => False
theorem lc_core2 {vs : List Nat} {t : DenT} {g : Tgt} {wk : Walk} {J : It} {env : Env} {σ : St} {n : Nat} {Q : VK} (s : SOk X.K ca w) (m : Sim X.K ca w env σ) (hJ : ItOk X.K ca w J wk)
    (h : Sat ((lcW g t f wk (wipeE env vs) w.S.length n 0 (w.S ++ [.lst []])).bind fun _ S2 => .ok (.ref w.S.length) S2) (QV X.K ca w Q) (fun _ _ _ => False)) :
    ∀ D, w.H D = none → ∃ Wi : Nat → Nat → Hp → Prop, (∃ m, Wi 0 m (upd w.H D (.lst []))) ∧ ∀ i m H, Wi i m H →
      (J.stop i H ∧ Q (.ref D) H) ∨ (J.go i H ∧ ∃ Nx : Hp → Prop, (∀ H', Nx H' → ∃ m', m' < m ∧ Wi (i + 1) m' H') ∧ ∀ x H', J.yld i H x H' → tGv X.K ca vs g x (wipe σ vs) H' fun σ2 H2 => wipe σ2 vs = wipe σ vs ∧ tT X.K ca W0 t σ2 H2 fun b H3 =>
        if b = true then tE X.K ca W0 f σ2 H3 fun y H4 => ∃ acc, H4 D = some (.lst acc) ∧ acc.length < sizeLine ∧ Nx (upd H4 D (.lst (acc ++ [y]))) else Nx H3) := by
  intro A hA
  obtain ⟨x1, s1⟩ := new_ext (X := X) (ca := ca) (p := A) (vs := []) (ds := []) s hA .nil
  generalize hw1 : (⟨upd w.H A (.lst []), fun n => if n = w.S.length then A else w.ρ n, w.S ++ [.lst []]⟩ : Wd) = w1 at x1 s1
  have hn1 : w.S.length < w1.S.length := by rw [← hw1]; show _ < (w.S ++ [O.lst []]).length; rw [List.length_append]; exact Nat.lt_succ_self _
  have hρ : w1.ρ w.S.length = A := by rw [← hw1]; exact if_pos rfl
  have hS1 : w1.S = w.S ++ [.lst []] := by rw [← hw1]
  have hH1 : w1.H = upd w.H A (.lst []) := by rw [← hw1]
  refine ⟨fun i k H => ∃ w2, w2.H = H ∧ Ext w1 w2 ∧ SOk X.K ca w2 ∧ Sat (lcW g t f wk (wipeE env vs) w.S.length k i w2.S) (fun _ S2 => QV X.K ca w2 Q (.ref w.S.length) S2) (fun _ _ _ => False), ⟨n, w1, hH1, .refl w1, s1, ?_⟩, ?_⟩
  · rw [hS1]
    exact (Sat.bind h).mono (fun _ S2 q => QV.later x1 q) fun _ _ _ q => q
  rintro i k H ⟨w2, rfl, x2, s2, h2⟩
  have hA2 : w2.ρ w.S.length = A := (x2.rho _ hn1).trans hρ
  have stop : wk i w2.S = some none → QV X.K ca w2 Q (.ref w.S.length) w2.S → J.stop i w2.H ∧ Q (.ref A) w2.H := fun z q => by
    refine ⟨hJ.stops i w2 (x1.trans x2) s2 z, ?_⟩
    have rr : Rep X.K ca w2 (.ref (w2.ρ w.S.length)) (.ref w.S.length) := .ref (Nat.lt_of_lt_of_le hn1 x2.len)
    rw [hA2] at rr
    exact sat_here s2 q rr
  cases k with
  | zero =>
    unfold lcW at h2
    cases z : wk i w2.S with
    | none => rw [z] at h2; exact h2.elim
    | some o =>
      cases o with
      | some d => rw [z] at h2; exact h2.elim
      | none => rw [z] at h2; exact .inl (stop z h2)
  | succ k =>
    unfold lcW at h2
    cases z : wk i w2.S with
    | none => rw [z] at h2; exact h2.elim
    | some o =>
      cases o with
      | none => rw [z] at h2; exact .inl (stop z h2)
      | some d =>
        rw [z] at h2
        dsimp only at h2
        refine .inr ⟨hJ.goes i w2 d (x1.trans x2) s2 z, fun H' => ∃ w3, w3.H = H' ∧ Ext w1 w3 ∧ SOk X.K ca w3 ∧ Sat (lcW g t f wk (wipeE env vs) w.S.length k (i + 1) w3.S) (fun _ S2 => QV X.K ca w3 Q (.ref w.S.length) S2) (fun _ _ _ => False),
          fun H' q => ⟨k, Nat.lt_succ_self k, q⟩, fun x H' y => ?_⟩
        obtain ⟨w3, eH, eS, x3, s3, rd⟩ := hJ.yields i w2 d x H' (x1.trans x2) s2 z y
        rw [← eS] at h2
        cases zt : g d (wipeE env vs) w3.S with
        | none => rw [zt] at h2; exact h2.elim
        | some e1 =>
          rw [zt] at h2
          dsimp only at h2
          have mw := (m.mono (x1.trans (x2.trans x3)) s).wipe vs
          refine ⟨w3, _, d, e1, eH, s3, mw, rd, zt, fun σ2 m2 k2 => ⟨k2.trans wipe_wipe, w3, e1, eH, s3, m2, ?_⟩⟩
          cases zb : t e1 w3.S with
          | bad => rw [zb] at h2; exact h2.elim
          | err c v S1 => rw [zb] at h2; exact h2.elim
          | ok b S1 =>
            rw [zb] at h2
            intro w4 hS x4 s4
            subst hS
            cases b with
            | false =>
              exact iteF ⟨w4, rfl, x2.trans (x3.trans x4), s4, h2.mono (fun _ S2 q => QV.later (x3.trans x4) q) fun _ _ _ q => q⟩
            | true =>
              refine iteT ⟨w4, e1, rfl, s4, m2.mono x4 s3, ?_⟩
              dsimp only at h2
              cases zf : f e1 w4.S with
              | bad => rw [zf] at h2; exact h2.elim
              | err c v S1 => rw [zf] at h2; exact h2.elim
              | ok dy S2 =>
                rw [zf] at h2
                intro w5 hS x5 s5 yv ry
                subst hS
                dsimp only at h2
                cases zs : w5.S[w.S.length]? with
                | none => rw [zs] at h2; exact h2.elim
                | some u =>
                  cases u with
                  | dead => rw [zs] at h2; exact h2.elim
                  | dct _ _ => rw [zs] at h2; exact h2.elim
                  | lst acc =>
                    rw [zs] at h2
                    dsimp only at h2
                    by_cases hl : acc.length < sizeLine
                    · rw [if_pos hl] at h2
                      obtain ⟨us, hu, ru⟩ := s5.live _ acc zs
                      have e5 : w5.ρ w.S.length = A := (((x2.trans (x3.trans (x4.trans x5)))).rho _ hn1).trans hρ
                      obtain ⟨y6, s6⟩ := chg_ext (ys := acc ++ [dy]) (vs := us ++ [yv]) s5 zs (ru.append (.cons ry .nil))
                      rw [e5] at hu y6 s6
                      refine ⟨us, hu, by rw [ru.length]; exact hl, _, rfl, (x2.trans (x3.trans (x4.trans x5))).trans y6, s6, ?_⟩
                      exact h2.mono (fun _ S2 q => QV.later (x3.trans (x4.trans (x5.trans y6))) q) fun _ _ _ q => q
                    · rw [if_neg hl] at h2; exact h2.elim
theorem lcW_mute {g : Tgt} {t : DenT} {wk : Walk} {e0 : Env} {n : Nat} {c : Nat} {v : D} {S2 : Store} : ∀ (k i : Nat) (S : Store), lcW g t f wk e0 n k i S ≠ .err c v S2
  | 0, i, S => by unfold lcW; split <;> simp
  | k + 1, i, S => by
    unfold lcW
    split
    · simp
    · simp
    · split
      · simp
      · split
        · split
          · split
            · split
              · exact lcW_mute k _ _
              · simp
            · simp
          · simp
        · exact lcW_mute k _ _
        · simp
theorem lc_fin {g : Tgt} {t : DenT} {wk : Walk} {e0 : Env} {n k : Nat} {S : Store} {Q : D → Store → Prop} {E : Nat → D → Store → Prop} (h : Sat ((lcW g t f wk e0 n k 0 S).bind fun _ S2 => .ok (.ref n) S2) Q E) : Sat ((lcW g t f wk e0 n k 0 S).bind fun _ S2 => .ok (D.ref n) S2) Q (fun _ _ _ => False) := by
  cases z : lcW g t f wk e0 n k 0 S with
  | ok u S2 => rw [z] at h; exact h
  | err c v S2 => exact absurd z (lcW_mute k 0 S)
  | bad => rw [z] at h; exact h
theorem lc_impN {vs : List Nat} {gi : DenI} {t : DenT} {g : Tgt} {σ : St} {H : Hp} {Q : VK} (h : tE X.K ca W (eLcN vs gi g t f) σ H Q) : tLc (tIt X.K ca W gi) (tGv X.K ca vs g) (tT X.K ca W0 t) (tE X.K ca W0 f) vs σ H Q := by
  obtain ⟨w, env, e, s, m, h⟩ := h
  refine ⟨w, env, e, s, m, (Sat.bind h).mono (fun wn S1 q => ?_) fun _ _ _ q => q⟩
  intro w1 hS x1 s1 J hJ
  subst hS
  exact lc_core2 (n := wn.2) s1 (m.mono x1 s) hJ (lc_fin (q.mono (fun d S z => QV.later x1 z) fun c v S z => QE.later x1 z))
theorem lc_imp {vs : List Nat} {gi : DenI} {t : DenT} {g : Tgt} {σ : St} {H : Hp} {Q : VK} (h : tE X.K ca W (eLc vs gi g t f) σ H Q) : tLc (tIt X.K ca W gi) (tGv X.K ca vs g) (tT X.K ca W0 t) (tE X.K ca W0 f) vs σ H Q := by
  obtain ⟨w, env, e, s, m, h⟩ := h
  refine ⟨w, env, e, s, m, (Sat.bind h).mono (fun wn S1 q => ?_) fun _ _ _ q => q⟩
  intro w1 hS x1 s1 J hJ
  subst hS
  exact lc_core2 (n := wn.2) s1 (m.mono x1 s) hJ (lc_fin (tidy_imp (RR := fun cls dd H => W cls dd σ H) s1 (q.mono (fun d S z => QV.later x1 z) fun c v S z => QE.later x1 z)))
theorem pts0 : PTs X [] (tT X.K ca W0 tYesD) := ⟨fun pins s σ H Q I h => pts_nil.run pins s σ H Q I (by
  obtain ⟨w, env, e, s, m, h⟩ := h
  subst e
  exact Aft.here (w' := w) h (.refl w) s)⟩
theorem pts1 {t : DenT} (h : PT X a (tT X.K ca W0 t)) : PTs X [a] (tT X.K ca W0 t) := pts_one h
end
end Py

set_option maxHeartbeats 4000000
/-! PyJ: comprehensions as expressions, enumerate, zip, calls by keyword, constants of the module, membership, isinstance, an exception's value. -/
namespace Py
open PySem PySem.Spec PyProof.Rows L2

section
variable {X : Cx} {ca : Nat → Addr} {W : WX} {pos pos' p apos cpos spos py : Pos} {f g h o i : Den} {gs hs : Dens} {a b e elt eo ei tg iter : Expr} {es ifs : List Expr} {w : Wd}
theorem e_lc {scope : Scope} {own : List (Str × Nat)} {vs : List Nat} {gi : DenI} {t : DenT} {g : Tgt} (hc : X.calm = true) (hN : X.N.Nodup) (hv : own.map (·.2) = vs) (hi : PI X tg iter (tIt X.K ca W gi)) (ok : BlkOk X.N X.env.scope scope own)
    (hg : ∀ (s : Shared) (H : Hp) (C : Addr) (cl : List (Str × Addr)) (fp : List Addr), PG (X.blk s H scope (compEnvC scope cl C X.env) fp) tg (tGv X.K ca vs g))
    (ht : ∀ (s : Shared) (H : Hp) (C : Addr) (cl : List (Str × Addr)) (fp : List Addr), PTs (X.blk s H scope (compEnvC scope cl C X.env) fp) ifs (tT X.K ca W0 t))
    (he : ∀ (s : Shared) (H : Hp) (C : Addr) (cl : List (Str × Addr)) (fp : List Addr), PE (X.blk s H scope (compEnvC scope cl C X.env) fp) elt (tE X.K ca W0 f)) (hs : ∀ x, foldedSetIterable iter X.env x = pure x := by intro _; rfl) :
    PE X (.ListComp elt [⟨tg, iter, ifs, 0⟩] scope pos) (tE X.K ca W (eLc vs gi g t f)) := by
  subst hv
  exact PE.imp (pe_lc hc hN hi ok hg ht he hs) fun _ _ _ h => lc_imp h
theorem e_lcN {scope : Scope} {own : List (Str × Nat)} {vs : List Nat} {gi : DenI} {t : DenT} {g : Tgt} (hc : X.calm = true) (hN : X.N.Nodup) (hv : own.map (·.2) = vs) (hi : PI X tg iter (tIt X.K ca W gi)) (ok : BlkOk X.N X.env.scope scope own)
    (hg : ∀ (s : Shared) (H : Hp) (C : Addr) (cl : List (Str × Addr)) (fp : List Addr), PG (X.blk s H scope (compEnvC scope cl C X.env) fp) tg (tGv X.K ca vs g))
    (ht : ∀ (s : Shared) (H : Hp) (C : Addr) (cl : List (Str × Addr)) (fp : List Addr), PTs (X.blk s H scope (compEnvC scope cl C X.env) fp) ifs (tT X.K ca W0 t))
    (he : ∀ (s : Shared) (H : Hp) (C : Addr) (cl : List (Str × Addr)) (fp : List Addr), PE (X.blk s H scope (compEnvC scope cl C X.env) fp) elt (tE X.K ca W0 f)) (hs : ∀ x, foldedSetIterable iter X.env x = pure x := by intro _; rfl) :
    PE X (.ListComp elt [⟨tg, iter, ifs, 0⟩] scope pos) (tE X.K ca W (eLcN vs gi g t f)) := by
  subst hv
  exact PE.imp (pe_lc hc hN hi ok hg ht he hs) fun _ _ _ h => lc_impN h
theorem s_lc {scope : Scope} {own : List (Str × Nat)} {vs : List Nat} {gi : DenI} {t : DenT} {g : Tgt} {k : Nat} {y : Str} (hc : X.calm = true) (hN : X.N.Nodup) (hy : X.N[k]? = some y) (hyl : X.env.scope.names.lookup y = some .local)
    (hsw : swapsWith (.ListComp elt [⟨tg, iter, ifs, 0⟩] scope pos) (some (.Name y py)) spos.line X.env = pure true) (hv : own.map (·.2) = vs) (hi : PI X tg iter (tIt X.K ca W gi)) (ok : BlkOk X.N X.env.scope scope own)
    (hg : ∀ (s : Shared) (H : Hp) (C : Addr) (cl : List (Str × Addr)) (fp : List Addr), PG (X.blk s H scope (compEnvC scope cl C X.env) fp) tg (tGv X.K ca vs g))
    (ht : ∀ (s : Shared) (H : Hp) (C : Addr) (cl : List (Str × Addr)) (fp : List Addr), PTs (X.blk s H scope (compEnvC scope cl C X.env) fp) ifs (tT X.K ca W0 t))
    (he : ∀ (s : Shared) (H : Hp) (C : Addr) (cl : List (Str × Addr)) (fp : List Addr), PE (X.blk s H scope (compEnvC scope cl C X.env) fp) elt (tE X.K ca W0 f)) (hs : ∀ x, foldedSetIterable iter X.env x = pure x := by intro _; rfl) :
    PS X (.Assign [.Name y py] (.ListComp elt [⟨tg, iter, ifs, 0⟩] scope pos) spos) (tS X.K ca W (sSet k (eLc vs gi g t f))) := by
  subst hv
  exact s_setOf (ps_setLc hc hN hy hyl hsw hi ok hg ht he hs) fun _ _ _ h => lc_imp h
theorem s_lcN {scope : Scope} {own : List (Str × Nat)} {vs : List Nat} {gi : DenI} {t : DenT} {g : Tgt} {k : Nat} {y : Str} (hc : X.calm = true) (hN : X.N.Nodup) (hy : X.N[k]? = some y) (hyl : X.env.scope.names.lookup y = some .local)
    (hsw : swapsWith (.ListComp elt [⟨tg, iter, ifs, 0⟩] scope pos) (some (.Name y py)) spos.line X.env = pure true) (hv : own.map (·.2) = vs) (hi : PI X tg iter (tIt X.K ca W gi)) (ok : BlkOk X.N X.env.scope scope own)
    (hg : ∀ (s : Shared) (H : Hp) (C : Addr) (cl : List (Str × Addr)) (fp : List Addr), PG (X.blk s H scope (compEnvC scope cl C X.env) fp) tg (tGv X.K ca vs g))
    (ht : ∀ (s : Shared) (H : Hp) (C : Addr) (cl : List (Str × Addr)) (fp : List Addr), PTs (X.blk s H scope (compEnvC scope cl C X.env) fp) ifs (tT X.K ca W0 t))
    (he : ∀ (s : Shared) (H : Hp) (C : Addr) (cl : List (Str × Addr)) (fp : List Addr), PE (X.blk s H scope (compEnvC scope cl C X.env) fp) elt (tE X.K ca W0 f)) (hs : ∀ x, foldedSetIterable iter X.env x = pure x := by intro _; rfl) :
    PS X (.Assign [.Name y py] (.ListComp elt [⟨tg, iter, ifs, 0⟩] scope pos) spos) (tS X.K ca W (sSet k (eLcN vs gi g t f))) := by
  subst hv
  exact s_setOf (ps_setLc hc hN hy hyl hsw hi ok hg ht he hs) fun _ _ _ h => lc_impN h
end

/-! ### enumerate, zip -/
def lsW (d : D) (S : Store) : Option (Walk × Nat) := match d with
  | .lst xs => some (wkL xs, xs.length)
  | .ref n => (match S[n]? with | some (.lst xs) => some (wkR n, xs.length) | _ => none)
  | _ => none
def dEnumL (f : Den) : DenI := fun e S => (f e S).bind fun d S1 => optR (lsW d S1) fun w => .ok (wkE w.1, w.2) S1
def zipW (a b : D) (S : Store) : Option (Walk × Nat) := match a, b with
  | .tup xs, .tup ys => some (wkZ (wkL xs) (wkL ys), min xs.length ys.length)
  | a, b => (lsW a S).bind fun w => (lsW b S).map fun v => (wkZ w.1 v.1, min w.2 v.2)
def dZip2 (f g : Den) : DenI := fun e S => (f e S).bind fun a S1 => (g e S1).bind fun b S2 => optR (zipW a b S2) fun w => .ok w S2
section
variable {X : Cx} {ca : Nat → Addr} {W : WX} {pos pos' p apos cpos tpos : Pos} {f g h o i : Den} {gs hs : Dens} {a b e elt eo ei : Expr} {es elts : List Expr} {w : Wd}
theorem lsW_ok {d : D} {v : V} {wn : Walk × Nat} (s : SOk X.K ca w) (r : Rep X.K ca w v d) (h : lsW d w.S = some wn) : ∃ a vs, v = .ref a ∧ w.H a = some (.lst vs) ∧ ItOk X.K ca w (Itl X.K a) wn.1 := by
  cases r with
  | @lst a vs ds h1 n r =>
    cases h
    exact ⟨a, vs, rfl, h1, itl_ok s h1 n r⟩
  | @ref n hn =>
    unfold lsW at h
    dsimp only at h
    cases q : w.S[n]? with
    | none => rw [q] at h; cases h
    | some u =>
      cases u with
      | dead => rw [q] at h; cases h
      | dct _ _ => rw [q] at h; cases h
      | lst xs =>
        rw [q] at h
        cases h
        obtain ⟨vs, hv, _⟩ := s.live n xs q
        exact ⟨_, vs, rfl, hv, itref_ok hn⟩
  | _ => cases h
theorem wkE_of {wk : Walk} {i : Nat} {S : Store} {d : D} (h : wkE wk i S = some (some d)) : ∃ x, wk i S = some (some x) ∧ d = .tup [.int i, x] := by
  unfold wkE at h
  cases q : wk i S with
  | none => rw [q] at h; cases h
  | some o =>
    cases o with
    | none => rw [q] at h; cases h
    | some x => rw [q] at h; cases h; exact ⟨x, rfl, rfl⟩
theorem wkE_end {wk : Walk} {i : Nat} {S : Store} (h : wkE wk i S = some none) : wk i S = some none := by
  unfold wkE at h
  cases q : wk i S with
  | none => rw [q] at h; cases h
  | some o =>
    cases o with
    | none => rfl
    | some x => rw [q] at h; cases h
theorem ite_ok {A : Addr} {wk : Walk} (h : ItOk X.K ca w (Itl X.K A) wk) : ItOk X.K ca w (Ite X.K A) (wkE wk) where
  goes := fun i w2 d e s2 hi => by
    obtain ⟨x, hx, _⟩ := wkE_of hi
    exact h.goes i w2 x e s2 hx
  stops := fun i w2 e s2 hi => h.stops i w2 e s2 (wkE_end hi)
  yields := fun i w2 d x H' e s2 hi y => by
    obtain ⟨z, hz, rfl⟩ := wkE_of hi
    obtain ⟨T, v, rfl, hT, rfl, hv⟩ := y
    obtain ⟨w3, e1, e2, x3, s3, r3⟩ := h.yields i w2 z v w2.H e s2 hz ⟨rfl, hv⟩
    have hT3 : w3.H T = none := by rw [e1]; exact hT
    have y3 := Ext.alloc (w := w3) (o := .tup [.int (i : Nat), v]) hT3
    refine ⟨⟨upd w3.H T (.tup [.int (i : Nat), v]), w3.ρ, w3.S⟩, by rw [← e1], e2, x3.trans y3, s3.alloc hT3, .tup (.inl (.inl upd_same)) (.cons (.int _) (.cons (r3.mono y3 s3) .nil))⟩
theorem wkZ_of {wk wl : Walk} {i : Nat} {S : Store} {d : D} (h : wkZ wk wl i S = some (some d)) : ∃ x y, wk i S = some (some x) ∧ wl i S = some (some y) ∧ d = .tup [x, y] := by
  unfold wkZ at h
  split at h
  · rename_i x y h1 h2
    cases h
    exact ⟨x, y, h1, h2, rfl⟩
  · cases h
  · cases h
  · cases h
theorem wkZ_end {wk wl : Walk} {i : Nat} {S : Store} (h : wkZ wk wl i S = some none) : (wk i S = some none ∧ ∃ o, wl i S = some o) ∨ (wl i S = some none ∧ ∃ x, wk i S = some (some x)) := by
  unfold wkZ at h
  split at h
  · cases h
  · rename_i o h1 h2
    exact .inl ⟨h1, o, h2⟩
  · rename_i x h1 h2
    exact .inr ⟨h2, x, h1⟩
  · cases h
theorem itz_ok {A B : Addr} {wk wl : Walk} (h : ItOk X.K ca w (Itl X.K A) wk) (k : ItOk X.K ca w (Itl X.K B) wl) : ItOk X.K ca w (Itz X.K A B) (wkZ wk wl) where
  goes := fun i w2 d e s2 hi => by
    obtain ⟨x, y, hx, hy, _⟩ := wkZ_of hi
    obtain ⟨xs, v, h1, h2⟩ := h.goes i w2 x e s2 hx
    obtain ⟨ys, u, k1, k2⟩ := k.goes i w2 y e s2 hy
    exact ⟨xs, ys, v, u, h1, k1, h2, k2⟩
  stops := fun i w2 e s2 hi => by
    rcases wkZ_end hi with ⟨hx, o, hy⟩ | ⟨hy, x, hx⟩
    · obtain ⟨xs, h1, h2⟩ := h.stops i w2 e s2 hx
      cases o with
      | none =>
        obtain ⟨ys, k1, k2⟩ := k.stops i w2 e s2 hy
        exact ⟨xs, ys, h1, k1, .inl h2⟩
      | some y =>
        obtain ⟨ys, u, k1, k2⟩ := k.goes i w2 y e s2 hy
        exact ⟨xs, ys, h1, k1, .inl h2⟩
    · obtain ⟨xs, v, h1, h2⟩ := h.goes i w2 x e s2 hx
      obtain ⟨ys, k1, k2⟩ := k.stops i w2 e s2 hy
      exact ⟨xs, ys, h1, k1, .inr k2⟩
  yields := fun i w2 d x H' e s2 hi y => by
    obtain ⟨z1, z2, h1, h2, rfl⟩ := wkZ_of hi
    obtain ⟨T, v, u, rfl, hT, rfl, hv, hu⟩ := y
    obtain ⟨w3, e1, e2, x3, s3, r3⟩ := h.yields i w2 z1 v w2.H e s2 h1 ⟨rfl, hv⟩
    obtain ⟨w4, f1, f2, x4, s4, r4⟩ := k.yields i w3 z2 u w3.H (e.trans x3) s3 (by rw [e2]; exact h2) ⟨rfl, by rw [e1]; exact hu⟩
    have hT4 : w4.H T = none := by rw [f1, e1]; exact hT
    have y4 := Ext.alloc (w := w4) (o := .tup [v, u]) hT4
    refine ⟨⟨upd w4.H T (.tup [v, u]), w4.ρ, w4.S⟩, by rw [← e1, ← f1], f2.trans e2, (x3.trans x4).trans y4, s4.alloc hT4, .tup (.inl (.inl upd_same)) (.cons ((r3.mono x4 s3).mono y4 s4) (.cons (r4.mono y4 s4) .nil))⟩
theorem itzT_ok {A B : Addr} {wk wl : Walk} (h : ItOk X.K ca w (Itt X.K A) wk) (k : ItOk X.K ca w (Itt X.K B) wl) : ItOk X.K ca w (RZ.ItzT X.K A B) (wkZ wk wl) where
  goes := fun i w2 d e s2 hi => by
    obtain ⟨x, y, hx, hy, _⟩ := wkZ_of hi
    obtain ⟨xs, v, h1, h2⟩ := h.goes i w2 x e s2 hx
    obtain ⟨ys, u, k1, k2⟩ := k.goes i w2 y e s2 hy
    exact ⟨xs, ys, v, u, h1, k1, h2, k2⟩
  stops := fun i w2 e s2 hi => by
    rcases wkZ_end hi with ⟨hx, o, hy⟩ | ⟨hy, x, hx⟩
    · obtain ⟨xs, h1, h2⟩ := h.stops i w2 e s2 hx
      cases o with
      | none =>
        obtain ⟨ys, k1, k2⟩ := k.stops i w2 e s2 hy
        exact ⟨xs, ys, h1, k1, .inl h2⟩
      | some y =>
        obtain ⟨ys, u, k1, k2⟩ := k.goes i w2 y e s2 hy
        exact ⟨xs, ys, h1, k1, .inl h2⟩
    · obtain ⟨xs, v, h1, h2⟩ := h.goes i w2 x e s2 hx
      obtain ⟨ys, k1, k2⟩ := k.stops i w2 e s2 hy
      exact ⟨xs, ys, h1, k1, .inr k2⟩
  yields := fun i w2 d x H' e s2 hi y => by
    obtain ⟨z1, z2, h1, h2, rfl⟩ := wkZ_of hi
    obtain ⟨T, v, u, rfl, hT, rfl, hv, hu⟩ := y
    obtain ⟨w3, e1, e2, x3, s3, r3⟩ := h.yields i w2 z1 v w2.H e s2 h1 ⟨rfl, hv⟩
    obtain ⟨w4, f1, f2, x4, s4, r4⟩ := k.yields i w3 z2 u w3.H (e.trans x3) s3 (by rw [e2]; exact h2) ⟨rfl, by rw [e1]; exact hu⟩
    have hT4 : w4.H T = none := by rw [f1, e1]; exact hT
    have y4 := Ext.alloc (w := w4) (o := .tup [v, u]) hT4
    refine ⟨⟨upd w4.H T (.tup [v, u]), w4.ρ, w4.S⟩, by rw [← e1, ← f1], f2.trans e2, (x3.trans x4).trans y4, s4.alloc hT4, .tup (.inl (.inl upd_same)) (.cons ((r3.mono x4 s3).mono y4 s4) (.cons (r4.mono y4 s4) .nil))⟩
theorem i_enum {kk : Nat} (hg : Gl X "enumerate") (hm : X.mg "enumerate" = none) (ha : PE X a (tE X.K ca W f)) (hs : starEach [a] X.env = [(false, eval a X.env)] := by rfl) :
    PI X (.Tuple elts kk tpos) (.Call (.Name "enumerate" p) [a] [] pos) (tIt X.K ca W (dEnumL f)) := by
  refine ⟨fun pins s σ H R I h => (pi_enum hg hm (pa_cons ha pa_nil hs) hs).run pins s σ H R I ?_⟩
  obtain ⟨w, env, e, sk, m, h⟩ := h
  refine ⟨w, env, e, sk, m, (Sat.bind h).mono (fun d S1 q => ?_) fun _ _ _ q => q⟩
  intro w1 hS x1 s1 v r
  subst hS
  cases z : lsW d w1.S with
  | none => rw [z] at q; exact q.elim
  | some wn =>
    rw [z] at q
    obtain ⟨A, vs, rfl, hA, ok⟩ := lsW_ok s1 r z
    exact ⟨A, vs, rfl, .inl (.inl hA), q w1 rfl x1 s1 _ (ite_ok ok)⟩
theorem i_zip {kk : Nat} (hg : Gl X "zip") (hm : X.mg "zip" = none) (ha : PE X a (tE X.K ca W f)) (hb : PE X b (tE X.K ca W g))
    (hs : starEach [a, b] X.env = (false, eval a X.env) :: starEach [b] X.env := by rfl) (hs2 : starEach [b] X.env = (false, eval b X.env) :: starEach [] X.env := by rfl) (hpl : (backTo pos (starEach [b] X.env)).any (·.1) = false := by rfl) :
    PI X (.Tuple elts kk tpos) (.Call (.Name "zip" p) [a, b] [] pos) (tIt X.K ca W (dZip2 f g)) := by
  refine ⟨fun pins s σ H R I h => (RZ.pi_zipA hg hm (pa_cons ha (pa_cons hb pa_nil hs2) hs) hs hpl).run pins s σ H R I ?_⟩
  obtain ⟨w, env, e, sk, m, h⟩ := h
  refine tE_bind (Qb := fun w => fun (wn : Walk × Nat) S' => Aft X.K ca w S' fun w' => ∀ J, ItOk X.K ca w' J wn.1 → R J w'.H) e sk m h (fun e q => q.later e) fun w1 d v s1 m1 r e1 h1 => ?_
  refine tE_bind (Qb := fun w => fun (wn : Walk × Nat) S' => Aft X.K ca w S' fun w' => ∀ J, ItOk X.K ca w' J wn.1 → R J w'.H) rfl s1 m1 h1 (fun e q => q.later e) fun w2 d2 v2 s2 m2 r2 e2 h2 => ?_
  have r' := r.mono e2 s1
  have lists : ((lsW d w2.S).bind fun w => (lsW d2 w2.S).map fun v => (wkZ w.1 v.1, min w.2 v.2)) = zipW d d2 w2.S → ∃ a b xs ys, [v, v2] = [.ref a, .ref b] ∧ ((SqL X.K w2.H a xs ∧ SqL X.K w2.H b ys ∧ R (Itz X.K a b) w2.H) ∨ (SqT X.K w2.H a xs ∧ SqT X.K w2.H b ys ∧ R (RZ.ItzT X.K a b) w2.H)) := fun ez => by
    rw [← ez] at h2
    cases z1 : lsW d w2.S with
    | none => rw [z1] at h2; exact h2.elim
    | some w1' =>
      cases z2 : lsW d2 w2.S with
      | none => rw [z1, z2] at h2; exact h2.elim
      | some w2' =>
        rw [z1, z2] at h2
        obtain ⟨A, vs, rfl, hA, ok⟩ := lsW_ok s2 r' z1
        obtain ⟨B, us, rfl, hB, ok2⟩ := lsW_ok s2 r2 z2
        exact ⟨A, B, vs, us, rfl, .inl ⟨.inl (.inl hA), .inl (.inl hB), Aft.here (w' := w2) h2 (.refl w2) s2 _ (itz_ok ok ok2)⟩⟩
  cases r' with
  | @tup A vs ds hA ra =>
    cases r2 with
    | @tup B us es hB rb =>
      exact ⟨A, B, vs, us, rfl, .inr ⟨hA, hB, Aft.here (w' := w2) h2 (.refl w2) s2 _ (itzT_ok (itt_ok s2 hA ra) (itt_ok s2 hB rb))⟩⟩
    | _ => exact lists rfl
  | _ => cases r2 <;> exact lists rfl
end

/-! ### calls by keyword -/
def perm {α : Type} (js : List Nat) (xs : List α) : List α := js.filterMap (xs[·]?)
def eCallP (Γ : Calls) (i : Nat) (js : List Nat) (g h : Dens) : Den := fun e S => (g e S).bind fun as S1 => (h e S1).bind fun bs S2 => Γ i (perm js (as ++ bs)) S2
section
variable {K : PySem.W.Frag} {ca : Nat → Addr} {w : Wd}
theorem perm_vals {vs : List V} {us : List Value} (r : Vals vs us) : ∀ js : List Nat, Vals (perm js vs) (perm js us)
  | [] => .nil
  | j :: js => by
    unfold perm
    rw [List.filterMap_cons, List.filterMap_cons]
    have ih := perm_vals r js
    unfold perm at ih
    have hl := r.length
    by_cases hj : j < vs.length
    · have hv : vs[j]? = some vs[j] := List.getElem?_eq_getElem hj
      obtain ⟨u, hu, ru⟩ := r.get hv
      rw [hv, hu]
      exact .cons ru ih
    · rw [List.getElem?_eq_none (Nat.le_of_not_lt hj), List.getElem?_eq_none (by omega)]
      exact ih
theorem perm_rep {vs : List V} {us : List D} (r : RepL K ca w vs us) : ∀ js : List Nat, RepL K ca w (perm js vs) (perm js us)
  | [] => .nil
  | j :: js => by
    unfold perm
    rw [List.filterMap_cons, List.filterMap_cons]
    have ih := perm_rep r js
    unfold perm at ih
    have hl := r.length
    by_cases hj : j < vs.length
    · have hv : vs[j]? = some vs[j] := List.getElem?_eq_getElem hj
      obtain ⟨u, hu, ru⟩ := r.getV hv
      rw [hv, hu]
      exact .cons ru ih
    · rw [List.getElem?_eq_none (Nat.le_of_not_lt hj), List.getElem?_eq_none (by omega)]
      exact ih
end
/-- how n positional values and keywords named ks bind -/
def BindsP (K : PySem.W.Frag) (fd : FuncData) (ps ks : List Str) (n : Nat) (js : List Nat) : Prop := ∀ (s : Shared) (us ws : List Value), us.length = n → ws.length = ks.length → BindsTo s fd ⟨us, ks.zip ws⟩ (ps.zip (perm js (us ++ ws)))
theorem bindsP {K : PySem.W.Frag} {x qual : Str} {params : Arguments} {body : List Stmt} {scope : Scope} {kws : List (Str × V)} {f : Addr} {fd : FuncData} {ps ks : List Str} {n : Nat} {js : List Nat} (F : FunD K x qual params body scope [] kws f fd)
    (h : ∀ (kV doc pm : Value) (an : Option Addr) (cdv ct : Value) (us ws : List Value), us.length = n → ws.length = ks.length → bindArgs (PySem.W.fnOf x qual params body scope .none kV doc pm an cdv ct) ⟨us, ks.zip ws⟩ = pure (ps.zip (perm js (us ++ ws)))) : BindsP K fd ps ks n js := by
  obtain ⟨oc, od, dV, kV, doc, pm, an, cdv, ct, osl, rfl, lk, hcd, hD, hK⟩ := F.ex
  rcases hD with ⟨_, rfl⟩ | ⟨e, _⟩
  · exact fun s us ws hl hk => .of_eq (h kV doc pm an cdv ct us ws hl hk)
  · exact absurd rfl e
def tEk (K : PySem.W.Frag) (ca : Nat → Addr) (W : WX) (f : Dens) : TA := tEs K ca W f
section
variable {X : Cx} {ca : Nat → Addr} {W : WX} {pos pos' p apos cpos tpos kpos : Pos} {f g h o i : Den} {gs hs : Dens} {a b e elt eo ei : Expr} {es elts : List Expr} {kws : List Keyword} {w : Wd} {nm : Option Str}
theorem k_nil : PK X [] (tEs X.K ca W dNil) := ⟨fun pos pins s σ H Q I h => pk_nil.run pos pins s σ H Q I (by
  obtain ⟨w, env, e, sk, m, h⟩ := h
  subst e
  exact Aft.here (w' := w) h (.refl w) sk [] .nil)⟩
theorem k_cons (ha : PE X a (tE X.K ca W f)) (hk : PK X kws (tEs X.K ca W gs)) : PK X (⟨nm, a, kpos⟩ :: kws) (tEs X.K ca W (dCons f gs)) := ⟨fun pos pins s σ H Q I h => (pk_cons ha hk).run pos pins s σ H Q I (by
  obtain ⟨w, env, e, s, m, h⟩ := h
  refine tE_bind (Qb := fun w => QL X.K ca w Q) e s m h (fun e q => QL.later e q) fun w1 d v s1 m1 r e1 h1 => ?_
  refine tEs_bind (Qb := fun w => QL X.K ca w Q) rfl s1 m1 h1 (fun e q => QL.later e q) fun w2 d2 v2 s2 m2 r2 e2 h2 => ?_
  exact Aft.here (w' := w2) h2 (.refl w2) s2 _ (.cons (r.mono e2 s1) r2))⟩
theorem run_P {pins : List (Addr × Obj)} {σ : St} {H : Hp} {s : Shared} {Q : VK} {us ws : List Value} {vs zs : List V} {k n : Nat} {fa : Addr} {fd : FuncData} {ps ks : List Str} {js : List Nat} {sp : Sp} {E : XK} (F : FnOk X.prog X.w X.K X.mg X.base (L2N.CX X.prog X.w) k fa fd ps sp) (hr : Room k X.A)
    (hb : BindsP X.K fd ps ks n js) (hx : PassesAt (L2N.CX X.prog X.w) X σ E) (I : Inv X pins σ H s) (r : Vals vs us) (rz : Vals zs ws) (l1 : vs.length = n) (l2 : zs.length = ks.length) (h : sp (perm js (vs ++ zs)) H Q E) :
    wpAny (model X.prog X.w) X.A (call (.ref fa) us (ks.zip ws)) (EP X pins σ Q) X.xe s := by
  have b := hb s us ws (by rw [← r.length]; exact l1) (by rw [← rz.length]; exact l2)
  refine wpAny_call (codeAny_mono (F.run X.A X.stack s H ⟨us, ks.zip ws⟩ _ _ Q E hr I.env0 b (perm_vals (r.append rz) js) h) fun r s' hq => ?_)
  cases r with
  | error e => exact hx pins H s e s' I hq
  | ok fl =>
    cases fl with
    | ret u => exact I.after hq
    | next => exact False.elim hq
    | brk => exact False.elim hq
    | cont => exact False.elim hq
theorem e_callP {Γ : Calls} {i k n l : Nat} {fa : Addr} {fd : FuncData} {ps ks : List Str} {js : List Nat} {x : Str} (Fn : FnOk X.prog X.w X.K X.mg X.base (L2N.CX X.prog X.w) k fa fd ps (spF X.K ca Γ i l)) (hr : Room k X.A) (hg : Gl X x) (hm : X.mg x = some (.ref fa))
    (hk : PySem.W.keepIn X.K (.ref fa) = true) (hb : BindsP X.K fd ps ks n js) (tk : L2N.Takes X W) (ha : PA X (a :: es) (tEs X.K ca W gs)) (hkw : PK X kws (tEs X.K ca W hs)) (hl : Len gs n) (hl2 : Len hs ks.length) (hp : ∀ xs : List V, xs.length = n + ks.length → (perm js xs).length = l)
    (hall : (backToKw pos (keywordEach kws X.env)).all (·.1.isSome) = true := by rfl) (hks : (backToKw pos (keywordEach kws X.env)).filterMap (·.1) = ks := by rfl)
    (hdb : (x == ("__debug__" : Str)) = false := by decide) (he : starEach (a :: es) X.env = (false, eval a X.env) :: starEach es X.env := by rfl)
    (hpl : ((backTo pos (starEach (a :: es) X.env)).any (·.1) || (backToKw pos (keywordEach kws X.env)).any (·.1.isNone)) = false := by rfl) :
    PE X (.Call (.Name x p) (a :: es) kws pos) (tE X.K ca W (eCallP Γ i js gs hs)) := by
  refine ⟨fun pins s σ H Q I h => ?_⟩
  obtain ⟨w, env, e, sk, m, h⟩ := h
  unfold eCallP at h
  refine wpAny_Call_Name_kw (ld_glob I hg hm ?_ hdb)
  have rd : tEs X.K ca W gs σ H fun vs H1 => tEs X.K ca W hs σ H1 fun zs H2 => vs.length = n ∧ zs.length = ks.length ∧ spF X.K ca Γ i l (perm js (vs ++ zs)) H2 Q (fun cls d H' => W cls d σ H') := by
    have hl0 : ∀ ds S', gs env w.S = .ok ds S' → ds.length = n := fun ds S' q => hl _ _ _ _ q
    refine ⟨w, env, e, sk, m, ?_⟩
    cases q : gs env w.S with
    | bad => rw [q] at h; exact h
    | err c v S1 => rw [q] at h; exact h
    | ok ds S1 =>
      rw [q] at h
      intro w1 hS x1 s1 vs r
      subst hS
      have h1 : Sat ((hs env w1.S).bind fun bs S2 => Γ i (perm js (ds ++ bs)) S2) (QV X.K ca w1 Q) (QE X.K ca w1 W σ) := Sat.mono h (fun d S z => QV.later x1 z) (fun c v S z => QE.later x1 z)
      have hl1 : ∀ ds S', hs env w1.S = .ok ds S' → ds.length = ks.length := fun ds S' q => hl2 _ _ _ _ q
      refine ⟨w1, env, rfl, s1, m.mono x1 sk, ?_⟩
      cases q2 : hs env w1.S with
      | bad => rw [q2] at h1; exact h1
      | err c v S1 => rw [q2] at h1; exact h1
      | ok ds2 S2 =>
        rw [q2] at h1
        intro w2 hS x2 s2 zs r2
        subst hS
        have e1 : vs.length = n := by rw [r.length]; exact hl0 _ _ q
        have e2 : zs.length = ks.length := by rw [r2.length]; exact hl1 _ _ q2
        exact ⟨e1, e2, w2, _, rfl, hp _ (by rw [List.length_append, e1, e2]), s2, perm_rep ((r.mono x2 s1).append r2) js, Sat.mono h1 (fun d S z => QV.later x2 z) (fun c v S z => Aft.later z x2)⟩
  refine PySem.W.callWith_KW (h₀ := X.base) I.ok.mod.kin hk hall (thn (ha.run pos pins s σ H _ I rd) fun us s1 ⟨vs, H1, I1, r, q⟩ => ?_) hpl he
  refine thn (hkw.run pos pins s1 σ H1 _ I1 q) fun ws s2 ⟨zs, H2, I2, rz, l1, l2, q2⟩ => ⟨I2.kIn, ?_⟩
  rw [hks]
  exact run_P Fn hr hb (L2N.passAt tk σ) I2 r rz l1 l2 q2
theorem e_callP0 {Γ : Calls} {i k l : Nat} {fa : Addr} {fd : FuncData} {ps ks : List Str} {js : List Nat} {x : Str} (Fn : FnOk X.prog X.w X.K X.mg X.base (L2N.CX X.prog X.w) k fa fd ps (spF X.K ca Γ i l)) (hr : Room k X.A) (hg : Gl X x) (hm : X.mg x = some (.ref fa))
    (hk : PySem.W.keepIn X.K (.ref fa) = true) (hb : BindsP X.K fd ps ks 0 js) (tk : L2N.Takes X W) (hkw : PK X kws (tEs X.K ca W hs)) (hl2 : Len hs ks.length) (hp : ∀ xs : List V, xs.length = ks.length → (perm js xs).length = l)
    (hall : (backToKw pos (keywordEach kws X.env)).all (·.1.isSome) = true := by rfl) (hks : (backToKw pos (keywordEach kws X.env)).filterMap (·.1) = ks := by rfl)
    (hdb : (x == ("__debug__" : Str)) = false := by decide)
    (hpl : ((backTo pos (starEach [] X.env)).any (·.1) || (backToKw pos (keywordEach kws X.env)).any (·.1.isNone)) = false := by rfl) :
    PE X (.Call (.Name x p) [] kws pos) (tE X.K ca W (eCallP Γ i js dNil hs)) := by
  refine ⟨fun pins s σ H Q I h => ?_⟩
  obtain ⟨w, env, e, sk, m, h⟩ := h
  have h0 : Sat ((hs env w.S).bind fun bs S2 => Γ i (perm js bs) S2) (QV X.K ca w Q) (QE X.K ca w W σ) := h
  refine wpAny_Call_Name_kw (ld_glob I hg hm ?_ hdb)
  have rd : tEs X.K ca W hs σ H fun zs H2 => zs.length = ks.length ∧ spF X.K ca Γ i l (perm js zs) H2 Q (fun cls d H' => W cls d σ H') := by
    have hl1 : ∀ ds S', hs env w.S = .ok ds S' → ds.length = ks.length := fun ds S' q => hl2 _ _ _ _ q
    refine ⟨w, env, e, sk, m, ?_⟩
    cases q2 : hs env w.S with
    | bad => rw [q2] at h0; exact h0
    | err c v S1 => rw [q2] at h0; exact h0
    | ok ds2 S2 =>
      rw [q2] at h0
      intro w2 hS x2 s2 zs r2
      subst hS
      have e2 : zs.length = ks.length := by rw [r2.length]; exact hl1 _ _ q2
      exact ⟨e2, w2, _, rfl, hp _ e2, s2, perm_rep r2 js, Sat.mono h0 (fun d S z => QV.later x2 z) (fun c v S z => Aft.later z x2)⟩
  refine PySem.W.callWith_KW0 (h₀ := X.base) I.ok.mod.kin hk hall (thn (hkw.run pos pins s σ H _ I rd) fun ws s2 ⟨zs, H2, I2, rz, l2, q2⟩ => ⟨I2.kIn, ?_⟩) hpl
  rw [hks]
  exact run_P (n := 0) Fn hr hb (L2N.passAt tk σ) I2 .nil rz rfl l2 q2

/-! ### constants of the module -/
theorem e_glob {x : Str} {v : V} {u : Value} {d : D} (hg : Gl X x) (hm : X.mg x = some u) (r : RelV v u) (rd : ∀ w : Wd, Rep X.K ca w v d) (hd : (x == ("__debug__" : Str)) = false := by decide) : PE X (.Name x pos) (tE X.K ca W (eC d)) :=
  e_c (pe_glob hg hm r hd) fun w _ => rd w
end
end Py

set_option maxHeartbeats 2000000
/-! PyJe: enumerate of a tuple. -/
namespace PyEn
open PySem PySem.Spec PyProof.Rows L2 RZ
theorem drawsT {prog : Program} {w : World} {A : Around} (hh : A.handled = none) (it l : Addr) (hne : l ≠ it) (items : Array Value) :
    Draws prog w A it [it, l] items.size (fun i v => items[i]? = some v) (fun i h => h.IsTupleIter it l i ∧ h.IsTuple l items) where
  live := fun _ _ st => let ⟨o, ho, _⟩ := st.1; ⟨o, ho⟩
  frame := fun _ _ _ st hk => ⟨st.1.at fun o e => hk it (by simp) o e, st.2.at fun o e => hk l (by simp) o e⟩
  item := fun i s Q E hi st hQ => by
    refine nextOf_tuple_item st.1 st.2 (x := items[i]) (by simp [hi]) fun h' hit' hs' => ?_
    exact hQ _ h' s.toks (by simp [hi]) ⟨hit', st.2.extBut hs'.extBut hne⟩ hs'
  done := fun s Q E st hE => nextOf_tuple_end hh st.1 st.2 (by simp) hE
/-- the tuple at a, each item in a new pair -/
def IteT (K : PySem.W.Frag) (a : Addr) : It :=
  ⟨fun i H => ∃ (xs : List V) (x : V), SqT K H a xs ∧ xs[i]? = some x, fun i H v H' => ∃ T x, v = .ref T ∧ H T = none ∧ H' = upd H T (.tup [.int (i : Nat), x]) ∧ ∀ xs, SqT K H a xs → xs[i]? = some x, fun i H => ∃ xs : List V, SqT K H a xs ∧ xs.length ≤ i⟩
set_option maxHeartbeats 2000000 in
theorem meets_enumT (l : Addr) (items : Array Value) :
    Meets (Builtin.«enumerate.__new__» ⟨[.type "enumerate", .ref l], []⟩) (fun _ R s => s.heap.IsTuple l items ∧
      R (.ok (.ret (.ref (s.heap.push { cls := .type "tuple_iterator", data := .fields #[.ref l, .int 0 0] }).objs.size)))
        { s with heap := (s.heap.push { cls := .type "tuple_iterator", data := .fields #[.ref l, .int 0 0] }).push { cls := .type "enumerate", data := .fields #[.none, .bool false, .ref s.heap.objs.size, rawInt 0, .none, .none] } }) :=
  .of_wp fun prog w A R s h => by
    obtain ⟨hp, g, d, tk, os⟩ := s; obtain ⟨hL, h⟩ := h
    have hsub := sub_enumerate
    have hL' : Heap.IsTuple (Shared.heap ⟨hp, g, d, tk, os⟩) l items := hL
    obtain ⟨o, ho, hc, n, hd⟩ := id hL
    wp_walk using AutoSeq1.wpAny_loadPart' ho
    refine wpAny_stack_any fun st => wpAny_pure ?_
    split
    · rename_i c _ _ _ _ _
      cases (c == Value.type "enumerate")
      · wp_walk using AutoSeq1.wpAny_loadPart' ho, wpAny_pyIter_tuple hL'
        exact ⟨_, rfl, h⟩
      · wp_walk using AutoSeq1.wpAny_loadPart' ho, wpAny_pyIter_tuple hL'
        exact ⟨_, rfl, h⟩
    · wp_walk using AutoSeq1.wpAny_loadPart' ho, wpAny_pyIter_tuple hL'
      exact ⟨_, rfl, h⟩
section
variable {prog : Program} {w : World} {A : Around} {E : Value → Shared → Prop} {s : Shared}
theorem call_enumT {l : Addr} {items : Array Value} {Q : Value → Shared → Prop} (hL : s.heap.IsTuple l items)
    (h : ∀ h', IsEnum h' (s.heap.objs.size + 1) s.heap.objs.size 0 .none → h'.IsTupleIter s.heap.objs.size l 0 → h'.objs.size = s.heap.objs.size + 2 →
      (∀ b o, s.heap.get? b = some o → h'.get? b = some o) → Q (.ref (s.heap.objs.size + 1)) { s with heap := h' }) :
    wpAny (model prog w) A (call (.type "enumerate") [.ref l]) Q E s := by
  refine callType_new F.called_enumerate (by decide) (F.typeCall_enumerate_1 _) (F.newCall_enumerate_1 _) (fun obj => F.args_object_init_2 obj _) F.entry_enumerate_new
    (meets_enumT l items) ⟨hL, ?_⟩
  have hz : (s.heap.push { cls := .type "tuple_iterator", data := .fields #[.ref l, .int 0 0] }).objs.size = s.heap.objs.size + 1 := Heap.size_push ..
  show _ ∧ _
  rw [hz]
  have he : IsEnum ((s.heap.push { cls := .type "tuple_iterator", data := .fields #[.ref l, .int 0 0] }).push
      { cls := .type "enumerate", data := .fields #[.none, .bool false, .ref s.heap.objs.size, rawInt 0, .none, .none] }) (s.heap.objs.size + 1) s.heap.objs.size 0 .none := by
    have := Heap.get?_push_size (s.heap.push { cls := .type "tuple_iterator", data := .fields #[.ref l, .int 0 0] })
      (o := { cls := .type "enumerate", data := .fields #[.none, .bool false, .ref s.heap.objs.size, rawInt 0, .none, .none] }) rfl
    rw [hz] at this; exact this
  exact ⟨⟨_, he, rfl⟩, h _ he ⟨_, Heap.get?_push_of_some _ (Heap.get?_push_size _ rfl), rfl, rfl⟩ (by rw [Heap.size_push, hz]) fun b o x => Heap.get?_push_of_some _ (Heap.get?_push_of_some _ x)⟩
theorem pyNext_enumT_end {e it l : Addr} {i : Nat} {items : Array Value} {old : Value} {Q : Option Value → Shared → Prop} (hh : A.handled = none)
    (he : IsEnum s.heap e it i old) (hit : s.heap.IsTupleIter it l i) (hl : s.heap.IsTuple l items) (hx : items[i]? = none)
    (hQ : ∀ h', Heap.ExtBut it s.heap h' → Q none { s with heap := h' }) : wpAny (model prog w) A (pyNext (.ref e)) Q E s := by
  have hT : s.TypeIs (.ref e) "enumerate" := ⟨_, he, rfl⟩
  unfold pyNext
  refine wpAny_bind (wpAny_attempt (wpAny_callSpecial?_slot (name := Str.ofString "__next__") hT F.slot_enumerate_next
    (wpAny_call_entry F.slot_enumerate_next hT F.entry_enumerate_next ?_ (F.args_enumerate_next_1 _))))
  show wpAny _ _ (field (.ref e) 2 >>= _) _ _ _
  refine wpAny_bind (wpAny_field he rfl (x := .ref it) rfl ?_)
  refine wpAny_bind (nextOf_tuple_end (A := A.in1) hh hit hl hx fun h' x he' hx' => ?_)
  obtain ⟨o, ho, hc⟩ := hx'
  refine wpAny_bind (wpAny_isInstance (T := "StopIteration") (b := true) ⟨o, ho, hc⟩ isSubtype_stop ?_)
  exact wpAny_pure (hQ _ he')
end
theorem turn_enumT {P : Program} {w : World} {K : PySem.W.Frag} {elts : List Expr} {kk : Nat} {tpos : Pos} (a e it : Addr) (hea : e ≠ a) (hia : a ≠ it) :
    Turn P w K (.Tuple elts kk tpos) (IteT K a) [e, it] e (fun i h => (∃ old, IsEnum h e it ((i : Nat) : Int) old) ∧ h.IsTupleIter it a i ∧ e ≠ it) where
  mem := by simp
  obj := fun i h st b hb => by
    obtain ⟨⟨old, he⟩, ⟨o, ho, hc, hd⟩, _⟩ := st
    have e' : b = e ∨ b = it := by simpa using hb
    rcases e' with z | z
    · rw [z]; exact ⟨_, he, fun v q => nomatch q⟩
    · rw [z]; exact ⟨o, ho, fun v q => by rw [hd] at q; cases q⟩
  keep := fun i h h' st k => let ⟨⟨old, he⟩, hi, hne⟩ := st; ⟨⟨old, k e (by simp) _ he⟩, hi.at fun o q => k it (by simp) o q, hne⟩
  item := by
    intro X hP hw hK hc i pins s σ H E I hf st hg
    subst hP hw hK
    obtain ⟨⟨old, he⟩, hit, hne⟩ := st
    obtain ⟨xs, x, hq, hx⟩ := hg
    obtain ⟨its, rv, p, hz⟩ := I.tuple hq
    obtain ⟨u, hu, ru⟩ := rv.get hx
    have hel : e < s.heap.objs.size := Heap.lt_size he
    have hil : it < s.heap.objs.size := by obtain ⟨_, q, _⟩ := hit; exact Heap.lt_size q
    have hlt : i < its.toArray.size := by
      have := (List.getElem?_eq_some_iff.mp hu).1
      simpa using this
    refine wpAny_pyNext_enum_itemD (drawsT (prog := X.prog) (w := X.w) (A := X.A.in1) (show X.A.in1.handled = none from I.ok.hd hc) it a hia its.toArray) he ⟨hit, p⟩ hlt hne (by simp [hne, hea]) fun u' h' tk hu' ho hst hT hsz hk => ?_
    have eu : u' = u := by
      have : its.toArray[i]? = some u := by simpa using hu
      rw [this] at hu'
      cases hu'; rfl
    subst eu
    refine ⟨_, rfl, wpAny_letOwnedTupleGo_enum (s := { s with heap := h', toks := tk + 1 }) ho fun h'' he' sb => ?_⟩
    have hT2 : h''.get? s.heap.objs.size = some { cls := .type "tuple", data := .seq #[.int i tk, u'] } := (sb.2 _ (Nat.ne_of_gt hel)).trans hT
    have new : ObjOk X.prog X.w (upd H s.heap.objs.size (.tup [.int (i : Nat), x])) h'' s.heap.objs.size (.tup [.int (i : Nat), x]) :=
      ⟨by show 2 ≤ sizeLine; decide, [.int i tk, u'], .cons ⟨_, rfl⟩ (.cons ru .nil), ⟨_, hT2, rfl, _, rfl⟩⟩
    have I1 : Inv X pins σ (upd H s.heap.objs.size (.tup [.int (i : Nat), x])) { s with heap := h'', toks := tk + 1 } :=
      I.turnedNew (ch := [e, it]) (fun b ob hb q => (sb.2 b (fun z => hb (by simp [z]))).trans (hk b ob (fun z => hb (by simp [z])) (fun z => hb (by simp [z])) q)) hf (Nat.le_refl _) new
    refine ⟨.ref s.heap.objs.size, _, I1, rfl, ⟨_, x, rfl, I.hok.fresh (Nat.le_refl _), rfl, fun ys hy => by rw [I.tuple_inj hy hq]; exact hx⟩, ⟨⟨u', ?_⟩, hst.1.at fun o q => (sb.2 it (Ne.symm hne)).trans q, hne⟩, fun b hb => ?_⟩
    · have e1 : ((i + 1 : Nat) : Int) = (i : Int) + 1 := by omega
      rw [e1]; exact he'
    · have hb' : b < s.heap.objs.size := by
        have e' : b = e ∨ b = it := by simpa using hb
        rcases e' with z | z
        · rw [z]; exact hel
        · rw [z]; exact hil
      rw [upd_ne (Nat.ne_of_lt hb')]
      exact (hf b hb).1
  done := by
    intro X hP hw hK hc i pins s σ H E I hf st hg
    subst hP hw hK
    obtain ⟨⟨old, he⟩, hit, hne⟩ := st
    obtain ⟨xs, hq, hx⟩ := hg
    obtain ⟨its, rv, p, hz⟩ := I.tuple hq
    obtain ⟨f0, f1, f2, f3, f4, f5⟩ := hf it (by simp)
    have hl := rv.length
    exact pyNext_enumT_end (I.ok.hd hc) he hit p (by simp; omega) fun h' eb => ⟨rfl, I.turned (t' := s.toks) (fun b o hb q => eb b o hb q) f0 f1 f3 f4 f5⟩
  self := fun A i s Q E st h => let ⟨⟨_, he⟩, _⟩ := st; wpAny_pyIter_enum he h
/-- enumerate of a list or of a tuple -/
def iEnumA (K : PySem.W.Frag) (ta : TA) : TI := fun σ H R => ta σ H fun vs H1 => ∃ a xs, vs = [.ref a] ∧ ((SqL K H1 a xs ∧ R (Ite K a) H1) ∨ (SqT K H1 a xs ∧ R (IteT K a) H1))
theorem pi_enumA {X : Cx} {e : Expr} {ta : TA} {p pos tpos : Pos} {elts : List Expr} {kk : Nat} (hg : Gl X "enumerate") (hm : X.mg "enumerate" = none) (ha : PA X [e] ta) (hs : starEach [e] X.env = [(false, eval e X.env)] := by rfl) :
    PI X (.Tuple elts kk tpos) (.Call (.Name "enumerate" p) [e] [] pos) (iEnumA X.K ta) := by
  refine ⟨fun pins s σ H R I h => ?_⟩
  refine Call_ (ld_blt I hg hm boot_enumerate (PyProof.Rows.callWith_type1 (thn (ha.run pos pins s σ H _ I h) fun us s1 ⟨vs, H1, I1, r1, q1⟩ => ?_) hs rfl))
  obtain ⟨a, xs, ex, q1⟩ := q1
  subst ex
  cases r1 with
  | cons r rr =>
    cases rr
    cases r
    have fresh2 : ∀ b, b ∈ [s1.heap.objs.size + 1, s1.heap.objs.size] → FpOk X pins H1 b := fun b hb => by
      have e' : b = s1.heap.objs.size + 1 ∨ b = s1.heap.objs.size := by simpa using hb
      have hle : s1.heap.objs.size ≤ b := by
        rcases e' with z | z
        · rw [z]; exact Nat.le_add_right _ _
        · rw [z]; exact Nat.le_refl _
      exact I1.fpOk hle (I1.hok.fresh hle)
    rcases q1 with ⟨hq, q⟩ | ⟨hq, q⟩
    · obtain ⟨its, rv, p', hz⟩ := I1.list hq
      refine call_enumerate_list p'.isList fun h' he hit hsz hk => wpAny_pyIter_enum he ?_
      have I2 : Inv X pins σ H1 { s1 with heap := h' } := I1.kept (t' := s1.toks) hk
      exact ⟨s1.heap.objs.size + 1, [s1.heap.objs.size + 1, s1.heap.objs.size], _, _, H1, rfl, I2, turn_enum a (s1.heap.objs.size + 1) s1.heap.objs.size, ⟨⟨.none, he⟩, hit, Nat.succ_ne_self _⟩, fresh2, q⟩
    · obtain ⟨its, rv, p', hz⟩ := I1.tuple hq
      obtain ⟨o1, ho1, _⟩ := id p'
      have hlt : a < s1.heap.objs.size := Heap.lt_size ho1
      refine call_enumT p' fun h' he hit hsz hk => wpAny_pyIter_enum he ?_
      have I2 : Inv X pins σ H1 { s1 with heap := h' } := I1.kept (t' := s1.toks) hk
      exact ⟨s1.heap.objs.size + 1, [s1.heap.objs.size + 1, s1.heap.objs.size], _, _, H1, rfl, I2, turn_enumT a (s1.heap.objs.size + 1) s1.heap.objs.size (Nat.ne_of_gt (Nat.lt_succ_of_lt hlt)) (Nat.ne_of_lt hlt), ⟨⟨.none, he⟩, hit, Nat.succ_ne_self _⟩, fresh2, q⟩
/-! ### tuple * k, k = 1 or k at most 0 -/
theorem tuple_mulS (l : Addr) (items : Array Value) (n : Nat) (dd : Option Addr) (sl : Array (Option Value)) (u : Tok) :
    Meets (Builtin.«tuple.__mul__» ⟨[.ref l, .int 1 u], []⟩) (fun _ R s => s.heap.get? l = some { cls := .type "tuple", dict := dd, data := .seq items n, slots := sl } ∧
      R (.ok (.ret (Value.ref l))) s) :=
  .of_wp fun prog w A R s h => by
    obtain ⟨hp, g, d, tk, os⟩ := s
    obtain ⟨hl, h⟩ := h
    have f1 := AutoSeq1.idx_int
    have c0 : (decide ((1 : Int) < -(2 ^ 63)) || decide ((1 : Int) ≥ 2 ^ 63)) = false := by decide
    have c1 : (items.isEmpty || (1 : Int) == 1) = true := by simp
    wp_walk using wpAny_loadPart' hl
    repeat (first
      | (refine wpAny_ite_false (decide_eq_false (by rw [c0]; exact Bool.false_ne_true)) ?_; wp_walk using wpAny_loadPart' hl)
      | (refine wpAny_ite_true (decide_eq_true (by rw [c1])) ?_; wp_walk using wpAny_loadPart' hl))
    exact ⟨_, rfl, h⟩
theorem tuple_mul0 (l : Addr) (items : Array Value) (n : Nat) (dd : Option Addr) (sl : Array (Option Value)) (x : Int) (u : Tok) (c0 : (decide (x < -(2 ^ 63)) || decide (x ≥ 2 ^ 63)) = false) (c1 : (items.isEmpty || x == 1) = false) (c2 : (decide (x ≤ 0) || items.isEmpty) = true) :
    Meets (Builtin.«tuple.__mul__» ⟨[.ref l, .int x u], []⟩) (fun _ R s => s.heap.get? l = some { cls := .type "tuple", dict := dd, data := .seq items n, slots := sl } ∧
      R (.ok (.ret (Value.ref s.heap.objs.size))) { s with heap := s.heap.push { cls := Value.type "tuple", data := Data.seq #[] }, toks := s.toks }) :=
  .of_wp fun prog w A R s h => by
    obtain ⟨hp, g, d, tk, os⟩ := s
    obtain ⟨hl, h⟩ := h
    have f1 := AutoSeq1.idx_int
    have hsz : (#[] : Array Value).size ≤ sizeLine := Nat.zero_le _
    wp_walk using wpAny_loadPart' hl
    repeat (first
      | (refine wpAny_ite_false (decide_eq_false (by rw [c0]; exact Bool.false_ne_true)) ?_; wp_walk using wpAny_loadPart' hl)
      | (refine wpAny_ite_false (decide_eq_false (by rw [c1]; exact Bool.false_ne_true)) ?_; wp_walk using wpAny_loadPart' hl)
      | (refine wpAny_ite_true (decide_eq_true (by rw [c2])) ?_; wp_walk using wpAny_loadPart' hl)
      | (refine wpAny_ite_false (decide_eq_false (Nat.not_lt.mpr hsz)) ?_; wp_walk using wpAny_loadPart' hl))
    exact ⟨_, rfl, h⟩
def rRepT1 (K : PySem.W.Frag) : R2 := fun x y H Q => ∃ l xs, x = .ref l ∧ y = .int 1 ∧ SqT K H l xs ∧ Q x H
def rRepT0 (K : PySem.W.Frag) : R2 := fun x y H Q => ∃ l k xs, x = .ref l ∧ y = .int k ∧ SqT K H l xs ∧ xs ≠ [] ∧ k ≤ 0 ∧ -1000 ≤ k ∧ ∀ p, H p = none → Q (.ref p) (upd H p (.tup []))
section
variable {X : Cx}
theorem op_repT1 : OpR X (binaryOp .Mult) (rRepT1 X.K) := by
  intro pins s σ H x y v u Q I rx ry h
  obtain ⟨l, xs, rfl, rfl, hT, q⟩ := h
  cases rx
  obtain ⟨t, rfl⟩ := ry
  obtain ⟨its, r, ⟨⟨cls, dd, data, sl⟩, ho, hc, n, hd⟩, hs⟩ := I.tuple hT
  simp only at hc hd
  subst hc hd
  refine wpAny_binaryOp_repeat_ref (T := "tuple") (U := "int") (by decide) ⟨_, ho, rfl⟩ (fun s' => typeIs_int s' 1 t) noFill_tuple_mul F.fills_int_mul F.slot_int_rmul repeat_tuple F.slot_int_index.lookup
    (call_meets F.slot_int_rmul (typeIs_int s 1 t) F.entry_int_rmul (F.args_int_rmul_2 _ _) (int_rmul_tuple 1 t l its.toArray n dd sl)
      ⟨ho, rfl, ⟨_, ho, rfl⟩, call_meets F.slot_tuple_mul ⟨_, ho, rfl⟩ F.entry_tuple_mul (F.args_tuple_mul_2 _ _) (tuple_mulS l its.toArray n dd sl t) ⟨ho, ?_⟩⟩)
  exact ⟨.ref l, H, I, rfl, q⟩
theorem op_repT0 : OpR X (binaryOp .Mult) (rRepT0 X.K) := by
  intro pins s σ H x y v u Q I rx ry h
  obtain ⟨l, k, xs, rfl, rfl, hT, hne, h1, h2, q⟩ := h
  cases rx
  obtain ⟨t, rfl⟩ := ry
  obtain ⟨its, r, ⟨⟨cls, dd, data, sl⟩, ho, hc, n, hd⟩, hs⟩ := I.tuple hT
  simp only at hc hd
  subst hc hd
  have hle : its.length = xs.length := r.length.symm
  have hn : its ≠ [] := fun e => hne (by
    rw [e] at hle
    exact List.eq_nil_of_length_eq_zero hle.symm)
  have hi : its.toArray.isEmpty = false := by
    cases its with
    | nil => exact absurd rfl hn
    | cons a b => rfl
  have c0 : (decide (k < -(2 ^ 63)) || decide (k ≥ 2 ^ 63)) = false := by
    rw [decide_eq_false (by omega), decide_eq_false (by omega)] <;> rfl
  have c1 : (its.toArray.isEmpty || k == 1) = false := by
    rw [hi, Bool.false_or]
    exact beq_eq_false_iff_ne.mpr (by omega)
  have c2 : (decide (k ≤ 0) || its.toArray.isEmpty) = true := by
    rw [hi, Bool.or_false]
    exact decide_eq_true (by omega)
  refine wpAny_binaryOp_repeat_ref (T := "tuple") (U := "int") (by decide) ⟨_, ho, rfl⟩ (fun s' => typeIs_int s' k t) noFill_tuple_mul F.fills_int_mul F.slot_int_rmul repeat_tuple F.slot_int_index.lookup
    (call_meets F.slot_int_rmul (typeIs_int s k t) F.entry_int_rmul (F.args_int_rmul_2 _ _) (int_rmul_tuple k t l its.toArray n dd sl)
      ⟨ho, rfl, ⟨_, ho, rfl⟩, call_meets F.slot_tuple_mul ⟨_, ho, rfl⟩ F.entry_tuple_mul (F.args_tuple_mul_2 _ _) (tuple_mul0 l its.toArray n dd sl k t c0 c1 c2) ⟨ho, ?_⟩⟩)
  refine ⟨.ref s.heap.objs.size, _, I.laid (t' := s.toks) (o := .tup []) (fun b ob q => Heap.get?_push_of_some _ q) (Nat.le_refl _) ?_, rfl, q _ (I.hok.fresh (Nat.le_refl _))⟩
  exact ⟨Nat.zero_le _, [], .nil, IsTup.new _ _⟩
end
end PyEn
namespace Py
open PySem PySem.Spec PyProof.Rows L2
section
variable {X : Cx} {ca : Nat → Addr} {W : WX} {pos pos' p apos cpos tpos : Pos} {f g h o i : Den} {a b e : Expr} {es elts : List Expr} {w : Wd}
def lsA (d : D) (S : Store) : Option (Walk × Nat) := match d with
  | .tup xs => some (wkL xs, xs.length)
  | d => lsW d S
def dEnumA (f : Den) : DenI := fun e S => (f e S).bind fun d S1 => optR (lsA d S1) fun w => .ok (wkE w.1, w.2) S1
theorem iteT_ok {A : Addr} {wk : Walk} (h : ItOk X.K ca w (Itt X.K A) wk) : ItOk X.K ca w (PyEn.IteT X.K A) (wkE wk) where
  goes := fun i w2 d e s2 hi => by
    obtain ⟨x, hx, _⟩ := wkE_of hi
    exact h.goes i w2 x e s2 hx
  stops := fun i w2 e s2 hi => h.stops i w2 e s2 (wkE_end hi)
  yields := fun i w2 d x H' e s2 hi y => by
    obtain ⟨z, hz, rfl⟩ := wkE_of hi
    obtain ⟨T, v, rfl, hT, rfl, hv⟩ := y
    obtain ⟨w3, e1, e2, x3, s3, r3⟩ := h.yields i w2 z v w2.H e s2 hz ⟨rfl, hv⟩
    have hT3 : w3.H T = none := by rw [e1]; exact hT
    have y3 := Ext.alloc (w := w3) (o := .tup [.int (i : Nat), v]) hT3
    refine ⟨⟨upd w3.H T (.tup [.int (i : Nat), v]), w3.ρ, w3.S⟩, by rw [← e1], e2, x3.trans y3, s3.alloc hT3, .tup (.inl (.inl upd_same)) (.cons (.int _) (.cons (r3.mono y3 s3) .nil))⟩
theorem i_enumA {kk : Nat} (hg : Gl X "enumerate") (hm : X.mg "enumerate" = none) (ha : PE X a (tE X.K ca W f)) (hs : starEach [a] X.env = [(false, eval a X.env)] := by rfl) :
    PI X (.Tuple elts kk tpos) (.Call (.Name "enumerate" p) [a] [] pos) (tIt X.K ca W (dEnumA f)) := by
  refine ⟨fun pins s σ H R I h => (PyEn.pi_enumA hg hm (pa_cons ha pa_nil hs) hs).run pins s σ H R I ?_⟩
  obtain ⟨w, env, e, sk, m, h⟩ := h
  refine ⟨w, env, e, sk, m, (Sat.bind h).mono (fun d S1 q => ?_) fun _ _ _ q => q⟩
  intro w1 hS x1 s1 v r
  subst hS
  have key : lsA d w1.S = lsW d w1.S → ∃ a xs, [v] = [.ref a] ∧ ((SqL X.K w1.H a xs ∧ R (Ite X.K a) w1.H) ∨ (SqT X.K w1.H a xs ∧ R (PyEn.IteT X.K a) w1.H)) := fun hA => by
    rw [hA] at q
    cases z : lsW d w1.S with
    | none => rw [z] at q; exact q.elim
    | some wn =>
      rw [z] at q
      obtain ⟨A, vs, rfl, hA, ok⟩ := lsW_ok s1 r z
      exact ⟨A, vs, rfl, .inl ⟨.inl (.inl hA), q w1 rfl x1 s1 _ (ite_ok ok)⟩⟩
  cases r with
  | @tup A vs ds hq ra => exact ⟨A, vs, rfl, .inr ⟨hq, q w1 rfl x1 s1 _ (iteT_ok (itt_ok s1 hq ra))⟩⟩
  | _ => exact key rfl
/-- * where a tuple is written out on the left -/
def oRepA : Op2 := fun a b S => match a, b with
  | .tup xs, .int k => if k = 1 then .ok (.tup xs) S else if xs.length ≠ 0 ∧ k ≤ 0 ∧ -1000 ≤ k then .ok (.tup []) S else oRep (.tup xs) (.int k) S
  | a, b => oRep a b S
theorem m_repA : Mute2 oRepA := by
  intro a b S c v S' h
  unfold oRepA at h
  split at h
  · split at h
    · cases h
    · split at h
      · cases h
      · exact m_rep _ _ _ _ _ _ h
  · exact m_rep _ _ _ _ _ _ h
theorem r_repA : OpR X (binaryOp .Mult) (rO2 X.K ca oRepA) := opImp (opOr (opOr (r_rep (ca := ca)) PyEn.op_repT1) PyEn.op_repT0) fun x y H Q h => by
  obtain ⟨w, dx, dy, e, sk, r1, r2, q⟩ := h
  subst e
  have old : oRepA dx dy w.S = oRep dx dy w.S → (rO2 X.K ca oRep x y w.H Q ∨ PyEn.rRepT1 X.K x y w.H Q) ∨ PyEn.rRepT0 X.K x y w.H Q := fun e => .inl (.inl ⟨w, dx, dy, rfl, sk, r1, r2, by rw [← e]; exact q⟩)
  cases r1 with
  | @tup a vs ds hq ra =>
    cases r2 with
    | int k =>
      by_cases h1 : k = 1
      · subst h1
        have e1 : oRepA (.tup ds) (.int 1) w.S = .ok (.tup ds) w.S := by unfold oRepA; dsimp only; rw [if_pos rfl]
        rw [e1] at q
        exact .inl (.inr ⟨a, vs, rfl, rfl, hq, q w rfl (.refl w) sk _ (.tup hq ra)⟩)
      · by_cases h2 : ds.length ≠ 0 ∧ k ≤ 0 ∧ -1000 ≤ k
        · have e1 : oRepA (.tup ds) (.int k) w.S = .ok (.tup []) w.S := by unfold oRepA; dsimp only; rw [if_neg h1, if_pos h2]
          rw [e1] at q
          refine .inr ⟨a, k, vs, rfl, rfl, hq, fun z => h2.1 (by rw [← ra.length, z]; rfl), h2.2.1, h2.2.2, fun p hp => ?_⟩
          have x := Ext.alloc (w := w) (o := .tup []) hp
          exact q ⟨upd w.H p (.tup []), w.ρ, w.S⟩ rfl x (sk.alloc hp) (.ref p) (.tup (.inl (.inl upd_same)) .nil)
        · exact old (by show (if k = 1 then _ else if ds.length ≠ 0 ∧ k ≤ 0 ∧ -1000 ≤ k then _ else _) = _; rw [if_neg h1, if_neg h2])
    | _ => exact old rfl
  | _ => exact old (by cases dy <;> rfl)
end
end Py

set_option maxHeartbeats 4000000
/-! PyK: classes of errors: what the written part says of them, isinstance, an exception's value. -/
namespace Py
open PySem PySem.Spec PyProof.Rows L2

inductive Ty where
  | int | bool | str | tuple | list | none | dict
  deriving DecidableEq
def Ty.name : Ty → String
  | .int => "int" | .bool => "bool" | .str => "str" | .tuple => "tuple" | .list => "list" | .none => "NoneType" | .dict => "dict"
def Ty.sub (a b : Ty) : Bool := match a, b with
  | .int, .int => true | .bool, .bool => true | .str, .str => true | .tuple, .tuple => true | .list, .list => true | .none, .none => true | .dict, .dict => true | .bool, .int => true | _, _ => false
theorem kit_tyty (a b : Ty) : kitB a.name b.name = some (a.sub b) := by cases a <;> cases b <;> decide +kernel
theorem kit_tyve (a : Ty) : kitB a.name "ValueError" = some false := by cases a <;> decide +kernel
/-- a class that is asked for -/
inductive Cl where
  | ty (t : Ty) | ve | own (c : Nat)
/-- what a value is -/
inductive Kd where
  | ty (t : Ty) | exc (c : Nat)
/-- anc: each class's own number and those of its ancestors -/
abbrev Anc := List (List Nat)
def kdOf (anc : Anc) (d : D) (S : Store) : Option Kd := match d with
  | .non => some (.ty .none) | .bl _ => some (.ty .bool) | .int _ => some (.ty .int) | .str _ => some (.ty .str) | .tup _ => some (.ty .tuple) | .lst _ => some (.ty .list) | .fls _ => some (.ty .list) | .dct _ _ => some (.ty .dict)
  | .ref n => (match S[n]? with | some (.lst _) => some (.ty .list) | _ => none)
  | .exc c _ => if c < anc.length then some (.exc c) else none
def isK (anc : Anc) (k : Kd) (c : Cl) : Bool := match k, c with
  | .ty a, .ty b => a.sub b
  | .ty _, _ => false
  | .exc _, .ty _ => false
  | .exc _, .ve => true
  | .exc k, .own c => (anc.getD k []).contains c
def Cl.okB (anc : Anc) : Cl → Bool
  | .own c => decide (c < anc.length) | _ => true
def eIsi (anc : Anc) (cs : List Cl) (f : Den) : Den := fun e S => (f e S).bind fun d S1 => optR (kdOf anc d S1) fun k => .ok (.bl (cs.any (isK anc k))) S1
def exVal (anc : Anc) (d : D) (S : Store) : R D := match d with | .exc c v => if c < anc.length then .ok v S else .bad | _ => .bad
def eVal (anc : Anc) (f : Den) : Den := fun e S => (f e S).bind fun d S1 => exVal anc d S1

/-! ### the facts -/
section
variable (K : PySem.W.Frag) (ca : Nat → Addr) (anc : Anc)
structure ClsOk : Prop where
  ee : ∀ k c, k < anc.length → c < anc.length → PySem.W.kitOne K (.ref (ca k)) (.ref (ca c)) = some ((anc.getD k []).contains c)
  ex : ∀ k c, k < anc.length → c < anc.length → PySem.W.exmOne K (.ref (ca k)) (.ref (ca c)) = some ((anc.getD k []).contains c)
  ev : ∀ k, k < anc.length → PySem.W.kitOne K (.ref (ca k)) (.type "ValueError") = some true
  xv : ∀ k, k < anc.length → PySem.W.exmOne K (.ref (ca k)) (.type "ValueError") = some true
  et : ∀ k, k < anc.length → ∀ t : Ty, PySem.W.kitOne K (.ref (ca k)) (.type t.name) = some false
  te : ∀ (t : Ty) c, c < anc.length → PySem.W.kitOne K (.type t.name) (.ref (ca c)) = some false
  oex : ∀ c, c < anc.length → OexC K (ca c)
  xf : ∀ c, c < anc.length → XfC K (ca c)
  cls : ∀ c, c < anc.length → (PySem.W.clsIn K (ca c)).isSome = true ∧ PySem.W.findIn K (.ref (ca c)) "__class__" = some (some (.builtin "object.__class__")) ∧ PySem.W.mroIn K (ca c) (.type "object") = some true
  get : PySem.W.specialIn K (.builtin "object.__class__") "__get__" = some (some (.builtin "getset_descriptor.__get__")) ∧ PySem.W.takesIn K (.builtin "object.__class__") = some true
  noval : ∀ c, c < anc.length → PySem.W.findIn K (.ref (ca c)) "value" = some none
def oexB (C : Addr) : Bool := (match K.lookup C with
  | some ⟨.type "type", _, .cls cd, sl⟩ => (match cd.mro, sl.toList with
    | .ref C' :: bm, [_, _, _, _, some (.builtin n), _] => (C' == C && n == "ValueError.__new__") && (!cd.hasDel && (cd.hasDict && PySem.HandSPX.refsVE bm))
    | _, _ => false)
  | _ => false) && (decide (PySem.W.findIn K (.ref C) "__setattr__" = some (some (.builtin "object.__setattr__"))) && (decide (PySem.W.subIn K (.ref C) (.type "BaseException") = some true) &&
    (decide (PySem.W.typeIn K (.ref C) = some (.type "type")) && PySem.W.keepIn K (.ref C))))
end
theorem oexB_ok {K : PySem.W.Frag} {C : Addr} (h : oexB K C = true) : OexC K C := by
  unfold oexB at h
  rw [Bool.and_eq_true, Bool.and_eq_true, Bool.and_eq_true, Bool.and_eq_true] at h
  obtain ⟨h1, h2, h3, h4, h5⟩ := h
  refine ⟨?_, of_decide_eq_true h2, of_decide_eq_true h3, of_decide_eq_true h4, h5⟩
  split at h1
  · rename_i dd cd sl ho
    split at h1
    · rename_i C' bm k0 k1 k2 k3 n k5 hm hs
      simp only [Bool.and_eq_true, beq_iff_eq, Bool.not_eq_true'] at h1
      obtain ⟨⟨rfl, rfl⟩, hdel, hdi, hv⟩ := h1
      obtain ⟨nm, bs, mro, ns, qn, hd, sn, sub, ab, col, del⟩ := cd
      dsimp only at hm hdel hdi
      subst hm hdel hdi
      have hsl : sl = #[k0, k1, k2, k3, some (.builtin "ValueError.__new__"), k5] := by
        obtain ⟨l⟩ := sl
        simp only at hs
        rw [hs]
      subst hsl
      exact ⟨_, _, _, _, _, _, _, _, _, _, _, _, _, _, _, ho, hv⟩
    · cases h1
  · cases h1
section
variable (K : PySem.W.Frag) (ca : Nat → Addr) (anc : Anc)
def tys : List Ty := [.int, .bool, .str, .tuple, .list, .none, .dict]
def clsB : Bool := (List.range anc.length).all (fun k =>
    (List.range anc.length).all (fun c => decide (PySem.W.kitOne K (.ref (ca k)) (.ref (ca c)) = some ((anc.getD k []).contains c)) && decide (PySem.W.exmOne K (.ref (ca k)) (.ref (ca c)) = some ((anc.getD k []).contains c))) &&
    (decide (PySem.W.kitOne K (.ref (ca k)) (.type "ValueError") = some true) && (decide (PySem.W.exmOne K (.ref (ca k)) (.type "ValueError") = some true) &&
    (tys.all (fun t => decide (PySem.W.kitOne K (.ref (ca k)) (.type t.name) = some false) && decide (PySem.W.kitOne K (.type t.name) (.ref (ca k)) = some false)) &&
    (oexB K (ca k) && (xfB K (ca k) && ((PySem.W.clsIn K (ca k)).isSome && (decide (PySem.W.findIn K (.ref (ca k)) "__class__" = some (some (.builtin "object.__class__"))) &&
    (decide (PySem.W.mroIn K (ca k) (.type "object") = some true) && decide (PySem.W.findIn K (.ref (ca k)) "value" = some none)))))))))) &&
  (decide (PySem.W.specialIn K (.builtin "object.__class__") "__get__" = some (some (.builtin "getset_descriptor.__get__"))) && decide (PySem.W.takesIn K (.builtin "object.__class__") = some true))
end
theorem tys_all (t : Ty) : t ∈ tys := by cases t <;> decide
theorem clsB_ok {K : PySem.W.Frag} {ca : Nat → Addr} {anc : Anc} (h : clsB K ca anc = true) : ClsOk K ca anc := by
  unfold clsB at h
  rw [Bool.and_eq_true, Bool.and_eq_true, List.all_eq_true] at h
  obtain ⟨h, g1, g2⟩ := h
  have one : ∀ k, k < anc.length → _ := fun k hk => h k (List.mem_range.mpr hk)
  have two : ∀ k, k < anc.length → (∀ c, c < anc.length → PySem.W.kitOne K (.ref (ca k)) (.ref (ca c)) = some ((anc.getD k []).contains c) ∧ PySem.W.exmOne K (.ref (ca k)) (.ref (ca c)) = some ((anc.getD k []).contains c)) ∧
      PySem.W.kitOne K (.ref (ca k)) (.type "ValueError") = some true ∧ PySem.W.exmOne K (.ref (ca k)) (.type "ValueError") = some true ∧
      (∀ t : Ty, PySem.W.kitOne K (.ref (ca k)) (.type t.name) = some false ∧ PySem.W.kitOne K (.type t.name) (.ref (ca k)) = some false) ∧ OexC K (ca k) ∧ XfC K (ca k) ∧ (PySem.W.clsIn K (ca k)).isSome = true ∧
      PySem.W.findIn K (.ref (ca k)) "__class__" = some (some (.builtin "object.__class__")) ∧ PySem.W.mroIn K (ca k) (.type "object") = some true ∧ PySem.W.findIn K (.ref (ca k)) "value" = some none := fun k hk => by
    have q := one k hk
    rw [Bool.and_eq_true, Bool.and_eq_true, Bool.and_eq_true, Bool.and_eq_true, Bool.and_eq_true, Bool.and_eq_true, Bool.and_eq_true, Bool.and_eq_true, Bool.and_eq_true, List.all_eq_true, List.all_eq_true] at q
    obtain ⟨a1, a2, a3, a4, a5, a6, a7, a8, a9, a10⟩ := q
    refine ⟨fun c hc => ?_, of_decide_eq_true a2, of_decide_eq_true a3, fun t => ?_, oexB_ok a5, xfB_ok a6, a7, of_decide_eq_true a8, of_decide_eq_true a9, of_decide_eq_true a10⟩
    · have z := a1 c (List.mem_range.mpr hc)
      rw [Bool.and_eq_true] at z
      exact ⟨of_decide_eq_true z.1, of_decide_eq_true z.2⟩
    · have z := a4 t (tys_all t)
      rw [Bool.and_eq_true] at z
      exact ⟨of_decide_eq_true z.1, of_decide_eq_true z.2⟩
  exact {
    ee := fun k c hk hc => ((two k hk).1 c hc).1
    ex := fun k c hk hc => ((two k hk).1 c hc).2
    ev := fun k hk => (two k hk).2.1
    xv := fun k hk => (two k hk).2.2.1
    et := fun k hk t => ((two k hk).2.2.2.1 t).1
    te := fun t c hc => ((two c hc).2.2.2.1 t).2
    oex := fun k hk => (two k hk).2.2.2.2.1
    xf := fun k hk => (two k hk).2.2.2.2.2.1
    cls := fun k hk => ⟨(two k hk).2.2.2.2.2.2.1, (two k hk).2.2.2.2.2.2.2.1, (two k hk).2.2.2.2.2.2.2.2.1⟩
    get := ⟨of_decide_eq_true g1, of_decide_eq_true g2⟩
    noval := fun k hk => (two k hk).2.2.2.2.2.2.2.2.2 }

/-! ### isinstance -/
def clU (ca : Nat → Addr) : Cl → Value
  | .ty t => .type t.name | .ve => .type "ValueError" | .own c => .ref (ca c)
def clV (ca : Nat → Addr) : Cl → V
  | .ty t => .ty t.name | .ve => .ty "ValueError" | .own c => .ref (ca c)
def kdU (ca : Nat → Addr) : Kd → Value
  | .ty t => .type t.name | .exc c => .ref (ca c)
section
variable {X : Cx} {ca : Nat → Addr} {anc : Anc} {W : WX} {pos pos' p apos cpos tpos : Pos} {f g h o i : Den} {gs hs : Dens} {a b e : Expr} {es : List Expr} {w : Wd}
theorem clV_rel (c : Cl) : ClsV (clV ca c) (clU ca c) := by
  cases c with
  | ty t => exact .ty _
  | ve => exact .ty _
  | own c => exact .own _
theorem kit_isK {k : Kd} {c : Cl} (C : ClsOk X.K ca anc) (hk : ∀ n, k = .exc n → n < anc.length) (hc : c.okB anc = true) : PySem.W.kitOne X.K (kdU ca k) (clU ca c) = some (isK anc k c) := by
  cases k with
  | ty t =>
    cases c with
    | ty s => exact kit_ty (kit_tyty t s)
    | ve => exact kit_ty (kit_tyve t)
    | own c => exact C.te t c (of_decide_eq_true hc)
  | exc n =>
    have hn := hk n rfl
    cases c with
    | ty s => exact C.et n hn s
    | ve => exact C.ev n hn
    | own c => exact C.ee n c hn (of_decide_eq_true hc)
theorem kitAny_isK {k : Kd} (C : ClsOk X.K ca anc) (hk : ∀ n, k = .exc n → n < anc.length) : ∀ {cs : List Cl}, cs.all (Cl.okB anc) = true → PySem.W.kitAny X.K (kdU ca k) (cs.map (clU ca)) = some (cs.any (isK anc k))
  | [], _ => rfl
  | c :: cs, h => by
    rw [List.all_cons, Bool.and_eq_true] at h
    have one := kit_isK C hk h.1
    have rest := kitAny_isK C hk h.2
    rw [List.map_cons, List.any_cons]
    refine kitAny_cons one (fun z => ?_) (fun z => ?_)
    · rw [z, Bool.false_or]; exact rest
    · rw [z, Bool.true_or]
/-- a caught exception as the heap has it -/
theorem exc_inst {pins : List (Addr × Obj)} {σ : St} {s : Shared} {a C d : Addr} {v : V} (I : Inv X pins σ w.H s) (h1 : w.H a = some (exk a C d)) (h2 : w.H d = some (.xd [("value", v)])) :
    ∃ oe od, PySem.W.InstAt s.heap a oe C (some od) ∧ ∃ u, PySem.W.lookIn "value" od = some (some u) ∧ RelV v u := by
  obtain ⟨oe, vs, he, hc, hd, hf, _⟩ := (show ObjOk X.prog X.w w.H s.heap a (exk a C d) from I.hok a _ h1).1
  obtain ⟨mA, hns, hr⟩ := (show ObjOk X.prog X.w w.H s.heap d (.xd [("value", v)]) from I.hok d _ h2)
  obtain ⟨od, ho, hl⟩ := lookIn_ns hns
  obtain ⟨u, hu, ru⟩ := RelO.some_of (v := v) (o := mA "value") (by have z := hr "value"; simpa using z)
  exact ⟨oe, od, ⟨he, hc, by unfold PySem.W.notCls; rw [hf] <;> rfl, by rw [hd]; exact ho⟩, u, by rw [hl, hu], ru⟩
theorem kit_rep {pins : List (Addr × Obj)} {σ : St} {s : Shared} {x : V} {u : Value} {d : D} {k : Kd} (C : ClsOk X.K ca anc) (I : Inv X pins σ w.H s) (sk : SOk X.K ca w) (rx : RelV x u) (r : Rep X.K ca w x d) (hk : kdOf anc d w.S = some k) :
    ∃ P : Heap → Prop, PySem.W.KitX X.K u (kdU ca k) P ∧ P s.heap ∧ u ≠ .builtin "__main__.__loader__#opaque" := by
  cases r with
  | non => cases hk; exact kit_of I rx (.base .non)
  | bl b => cases hk; exact kit_of I rx (.base (.bl b))
  | int i => cases hk; exact kit_of I rx (.base (.int i))
  | str x => cases hk; exact kit_of I rx (.base (.str x))
  | tup h1 r =>
    cases hk
    rcases h1 with (h1 | ⟨o, h1⟩) | ⟨o, its, n, h1, h2, _⟩
    · exact kit_of I rx (.base (.tup h1))
    · exact kit_of I rx (.fTuple h1)
    · exact kit_of I rx (.kTuple h1 h2)
  | lst h1 n r => cases hk; exact kit_of I rx (.base (.lst h1))
  | dct h1 n l r => cases hk; exact kit_of I rx (.base (.dK h1))
  | fls h =>
    cases hk
    rcases h with ⟨o, h⟩ | ⟨o, its, n, h, h2, _⟩
    · exact kit_of I rx (.base (.frz h))
    · exact kit_of I rx (.kList h h2)
  | @ref n hn =>
    unfold kdOf at hk
    dsimp only at hk
    cases q : w.S[n]? with
    | none => rw [q] at hk; cases hk
    | some o =>
      cases o with
      | dead => rw [q] at hk; cases hk
      | dct _ _ => rw [q] at hk; cases hk
      | lst xs =>
        rw [q] at hk
        cases hk
        obtain ⟨vs, hv, _⟩ := sk.live n xs q
        exact kit_of I rx (.base (.lst hv))
  | @exc a d c v x h1 h2 n1 n2 r =>
    unfold kdOf at hk
    dsimp only at hk
    by_cases hc : c < anc.length
    · rw [if_pos hc] at hk
      cases hk
      obtain rfl : u = Value.ref a := rx
      obtain ⟨oe, od, J, _⟩ := exc_inst I h1 h2
      have T := C.xf c hc
      obtain ⟨k1, k2, k3⟩ := C.cls c hc
      exact ⟨_, PySem.W.kitx_exc (x := a) (ox := oe) (od := some od) k1 T.ga T.gg T.exC k2 C.get.1 C.get.2 k3, J, fun z => nomatch z⟩
    · rw [if_neg hc] at hk; cases hk
theorem kd_lt {d : D} {S : Store} {k : Kd} (h : kdOf anc d S = some k) : ∀ n, k = .exc n → n < anc.length := by
  intro n e
  subst e
  unfold kdOf at h
  split at h
  all_goals first
    | (cases h; done)
    | skip
  · split at h <;> cases h
  · split at h
    · cases h; assumption
    · cases h
/-- isinstance(x, C) -/
def rIs1 (X : Cx) (ca : Nat → Addr) (anc : Anc) (c : Cl) : List V → Hp → VK → Prop := fun xs H Q => ∃ w x d k, w.H = H ∧ SOk X.K ca w ∧ xs = [x, clV ca c] ∧ Rep X.K ca w x d ∧ kdOf anc d w.S = some k ∧ Q (.bl (isK anc k c)) H
theorem call_is1 {c : Cl} (C : ClsOk X.K ca anc) (hc : c.okB anc = true) : CallR X (.builtin "isinstance") (rIs1 X ca anc c) := by
  intro pins s σ H xs us Q I r h
  obtain ⟨w, x, d, k, rfl, sk, rfl, rx, hk, q⟩ := h
  obtain ⟨u1, u2, rfl, r1, r2⟩ := vals2 r
  have e2 := (clV_rel (ca := ca) c).eq r2
  subst e2
  obtain ⟨P, Z, p, hx⟩ := kit_rep C I sk r1 rx hk
  exact PySem.W.kia_one Z I.kIn p (kit_isK C (kd_lt hk) hc) hx fun tk => ⟨.bl (isK anc k c), w.H, I.tok tk, rfl, q⟩
def rIsN (X : Cx) (ca : Nat → Addr) (anc : Anc) (cs : List Cl) : List V → Hp → VK → Prop := fun xs H Q => ∃ w x d k tp, w.H = H ∧ SOk X.K ca w ∧ xs = [x, .ref tp] ∧ H tp = some (.tup (cs.map (clV ca))) ∧ Rep X.K ca w x d ∧ kdOf anc d w.S = some k ∧ Q (.bl (cs.any (isK anc k))) H
theorem paired_cl : ∀ cs : List Cl, Paired ClsV (cs.map (clV ca)) (cs.map (clU ca))
  | [] => .nil
  | c :: cs => .cons (clV_rel c) (paired_cl cs)
theorem call_isN {cs : List Cl} (C : ClsOk X.K ca anc) (hc : cs.all (Cl.okB anc) = true) : CallR X (.builtin "isinstance") (rIsN X ca anc cs) := by
  intro pins s σ H xs us Q I r h
  obtain ⟨w, x, d, k, tp, rfl, sk, rfl, hT, rx, hk, q⟩ := h
  obtain ⟨u1, u2, rfl, r1, r2⟩ := vals2 r
  cases (show u2 = Value.ref tp from r2)
  obtain ⟨P, Z, p, hx⟩ := kit_rep C I sk r1 rx hk
  obtain ⟨_, its, rv, o, h1, h2, n, h3⟩ := (show ObjOk X.prog X.w w.H s.heap tp (.tup (cs.map (clV ca))) from I.hok tp _ hT)
  have e3 := ClsV.all (paired_cl (ca := ca) cs) rv
  subst e3
  obtain ⟨oc, od, dt, sl⟩ := o
  simp only at h2 h3
  subst h2 h3
  exact PySem.W.kia_tup Z I.kIn p h1 (kitAny_isK C (kd_lt hk) hc) hx fun tk => ⟨.bl (cs.any (isK anc k)), w.H, I.tok tk, rfl, q⟩
theorem e_isi {c : Cl} (C : ClsOk X.K ca anc) (hc : c.okB anc = true) (hg : Gl X "isinstance") (hm : X.mg "isinstance" = none) (ha : PE X a (tE X.K ca W f)) (hb : PE X b (tC (clV ca c)))
    (hs : starEach [a, b] X.env = (false, eval a X.env) :: starEach [b] X.env := by rfl) (hs2 : starEach [b] X.env = (false, eval b X.env) :: starEach [] X.env := by rfl) (hpl : (backTo pos (starEach [b] X.env)).any (·.1) = false := by rfl) :
    PE X (.Call (.Name "isinstance" p) [a, b] [] pos) (tE X.K ca W (eIsi anc [c] f)) :=
  PE.imp (pe_callB (call_is1 C hc) hg hm (by decide +kernel) (pa_cons ha (pa_cons hb pa_nil hs2) hs) (by decide) (by decide) hs hpl) fun σ H Q ⟨w, env, e, s, m, h⟩ => by
    refine tE_bind (Qb := fun w => QV X.K ca w Q) e s m h (fun e q => QV.later e q) fun w1 d v s1 m1 r e1 h1 => ?_
    cases q : kdOf anc d w1.S with
    | none => rw [q] at h1; exact h1.elim
    | some k =>
      rw [q] at h1
      have z := sat_here s1 (show QV X.K ca w1 Q (.bl ([c].any (isK anc k))) w1.S from h1) (.bl _)
      refine ⟨w1, v, d, k, rfl, s1, rfl, r, q, ?_⟩
      have e : [c].any (isK anc k) = isK anc k c := by simp
      rw [e] at z
      exact z
/-- the classes of a tuple -/
def tCls (ca : Nat → Addr) (cs : List Cl) : TA := fun σ H Q => Q (cs.map (clV ca)) H
theorem cls_nil : PA X [] (tCls ca []) := pa_nil
theorem cls_cons {c : Cl} {cs : List Cl} (ha : PE X a (tC (clV ca c))) (hb : PA X es (tCls ca cs)) (hst : starEach (a :: es) X.env = (false, eval a X.env) :: starEach es X.env := by rfl) : PA X (a :: es) (tCls ca (c :: cs)) := pa_cons ha hb hst
theorem c_ty {x : Str} {t : Ty} (hg : Gl X x) (hm : X.mg x = none) (hv : bootBuiltins x = some (.type t.name)) (hn : x ≠ "__name__" := by decide) (hd : (x == ("__debug__" : Str)) = false := by decide) : PE X (.Name x pos) (tC (clV ca (.ty t))) := pe_bltn hg hm hv rfl hn hd
theorem c_ve {x : Str} (hg : Gl X x) (hm : X.mg x = none) (hv : bootBuiltins x = some (.type "ValueError")) (hn : x ≠ "__name__" := by decide) (hd : (x == ("__debug__" : Str)) = false := by decide) : PE X (.Name x pos) (tC (clV ca .ve)) := pe_bltn hg hm hv rfl hn hd
theorem c_own {x : Str} {c : Nat} (hg : Gl X x) (hm : X.mg x = some (.ref (ca c))) (hd : (x == ("__debug__" : Str)) = false := by decide) : PE X (.Name x pos) (tC (clV ca (.own c))) := pe_glob hg hm rfl hd
theorem e_isiN {cs : List Cl} {x1} (C : ClsOk X.K ca anc) (hc : cs.all (Cl.okB anc) = true) (hl : cs.length ≤ sizeLine) (hg : Gl X "isinstance") (hm : X.mg "isinstance" = none) (ha : PE X a (tE X.K ca W f)) (hb : PA X es (tCls ca cs))
    (hs : starEach [a, .Tuple es x1 tpos] X.env = (false, eval a X.env) :: starEach [.Tuple es x1 tpos] X.env := by rfl) (hs2 : starEach [.Tuple es x1 tpos] X.env = (false, eval (.Tuple es x1 tpos) X.env) :: starEach [] X.env := by rfl) (hpl : (backTo pos (starEach [.Tuple es x1 tpos] X.env)).any (·.1) = false := by rfl) :
    PE X (.Call (.Name "isinstance" p) [a, .Tuple es x1 tpos] [] pos) (tE X.K ca W (eIsi anc cs f)) :=
  PE.imp (pe_callB (call_isN C hc) hg hm (by decide +kernel) (pa_cons ha (pa_cons (pe_tup hb) pa_nil hs2) hs) (by decide) (by decide) hs hpl) fun σ H Q ⟨w, env, e, s, m, h⟩ => by
    refine tE_bind (Qb := fun w => QV X.K ca w Q) e s m h (fun e q => QV.later e q) fun w1 d v s1 m1 r e1 h1 => ?_
    cases q : kdOf anc d w1.S with
    | none => rw [q] at h1; exact h1.elim
    | some k =>
      rw [q] at h1
      refine ⟨by rw [List.length_map]; exact hl, fun tp htp => ?_⟩
      have y := Ext.alloc (w := w1) (o := .tup (cs.map (clV ca))) htp
      refine ⟨⟨upd w1.H tp (.tup (cs.map (clV ca))), w1.ρ, w1.S⟩, v, d, k, tp, rfl, s1.alloc htp, rfl, upd_same, r.mono y s1, q, ?_⟩
      exact (show QV X.K ca w1 Q (.bl (cs.any (isK anc k))) w1.S from h1) ⟨upd w1.H tp (.tup (cs.map (clV ca))), w1.ρ, w1.S⟩ rfl y (s1.alloc htp) (.bl _) (.bl _)

/-! ### e.value -/
theorem e_val (C : ClsOk X.K ca anc) (ha : PE X a (tE X.K ca W f)) (hb : attributeBase a "value" X.env (eval a X.env) = eval a X.env := by rfl) : PE X (.Attribute a "value" pos) (tE X.K ca W (eVal anc f)) := by
  refine ⟨fun pins s σ H Q I h => ?_⟩
  have h' : tE X.K ca W f σ H fun x H1 => ∃ w d, w.H = H1 ∧ SOk X.K ca w ∧ Rep X.K ca w x d ∧ ∃ c y, d = .exc c y ∧ c < anc.length ∧ QV X.K ca w Q y w.S := by
    obtain ⟨w, env, e, s, m, h⟩ := h
    refine tE_bind (Qb := fun w => QV X.K ca w Q) e s m h (fun e q => QV.later e q) fun w1 d v s1 m1 r e1 h1 => ?_
    refine ⟨w1, d, rfl, s1, r, ?_⟩
    have h1 : Sat (exVal anc d w1.S) (QV X.K ca w1 Q) (QE X.K ca w1 W σ) := h1
    unfold exVal at h1
    cases d with
    | exc c y =>
      dsimp only at h1
      by_cases hc : c < anc.length
      · rw [if_pos hc] at h1
        exact ⟨c, y, rfl, hc, h1⟩
      · rw [if_neg hc] at h1; exact h1.elim
    | _ => exact h1.elim
  refine attr_of hb (thn (ha.run pins s σ H _ I h') fun u s1 hh => ?_)
  obtain ⟨x, H1, I1, rx, w, d, rfl, sk, r, c, y, rfl, hc, q⟩ := hh
  cases r with
  | @exc A D c v y h1 h2 n1 n2 rv =>
    obtain rfl : u = Value.ref A := rx
    obtain ⟨oe, od, J, u, hu, ru⟩ := exc_inst I1 h1 h2
    have T := C.xf c hc
    exact HandSPX.exc_get I1.kIn J T.ga T.gg T.exC (PySem.W.findObj_own T.hdC (C.noval c hc) rfl hu) (handed_of ru) ⟨v, w.H, I1.tok _, ru, sat_here sk q rv⟩
end
end Py

set_option maxHeartbeats 4000000
/-! PyL: membership, three stores at once, what calls need in a block. -/
namespace Py
open PySem PySem.Spec PyProof.Rows L2

theorem tk0 {X : Cx} : L2N.Takes X W0 := fun _ _ x => by
  obtain ⟨_, _, _, _, _, _, _, _, _, _, _, _, _, _, _, _, z⟩ := x
  exact z.elim
/-- no def: the promise that nothing keeps -/
theorem fn_none {P : Program} {w : World} {K : PySem.W.Frag} {ca : Nat → Addr} {mg : Str → Option Value} {base : Heap} {k i n : Nat} {f : Addr} {fd : FuncData} {ps : List Str} {Γ : Calls} (h : ∀ args S, Γ i args S = .bad) : FnOk P w K mg base (L2N.CX P w) k f fd ps (spF K ca Γ i n) where
  len := fun vs H Q E h0 => by
    obtain ⟨w, ds, _, _, _, _, q⟩ := h0
    rw [h] at q
    exact q.elim
  run := fun A outer s H args us vs Q E hr he hb r h0 => by
    obtain ⟨w, ds, _, _, _, _, q⟩ := h0
    rw [h] at q
    exact q.elim

/-! ### a, b, c = x, y, z -/
def sPar3 (i j l : Nat) (f g h : Den) : DenS := fun e S => match f e S with
  | .ok d S1 => (match g e S1 with
    | .ok d2 S2 => (match h e S2 with | .ok d3 S3 => .next (((e.set i (some d)).set j (some d2)).set l (some d3)) S3 | .err c v S3 => .err c v e S3 | .bad => .bad)
    | .err c v S2 => .err c v e S2 | .bad => .bad)
  | .err c v S1 => .err c v e S1
  | .bad => .bad

/-! ### {} -/
theorem e_dct0 {X : Cx} {ca : Nat → Addr} {W : WX} {pos : Pos} : PE X (.Dict [] [] pos) (tE X.K ca W (eC (.dct [] []))) := PE.imp pe_dnewK fun σ H Q ⟨w, env, e, s, m, h⟩ => by
  subst e
  intro p hp
  have x := Ext.alloc (w := w) (o := .dK []) hp
  exact h ⟨upd w.H p (.dK []), w.ρ, w.S⟩ rfl x (s.alloc hp) (.ref p) (.dct (us := []) upd_same (fun m => s.notM0 hp m) rfl .nil)

/-! ### in -/
def flatD : D → Bool
  | .non => true | .bl _ => true | .int _ => true | .str _ => true | _ => false
def oIn (neg : Bool) : Op2 := fun a b S => match b with
  | .tup ys => if flatD a && ys.all flatD then .ok (.bl (neg != ys.any fun y => eqB y a)) S else .bad
  | b => (match look a S, look b S with
    | some x, some (.lst ys) => if fit x && fit (.lst ys) then .ok (.bl (neg != ys.any fun y => eqB y x)) S else .bad
    | _, _ => .bad)
theorem m_in {neg : Bool} : Mute2 (oIn neg) := by
  intro a b S c v S' h; revert h; unfold oIn
  split
  · split <;> simp
  · split
    · split <;> simp
    · simp
section
variable {X : Cx} {ca : Nat → Addr} {W : WX} {pos pos' p apos cpos tpos : Pos} {f g h o i : Den} {gs hs : Dens} {a b e : Expr} {es : List Expr} {w : Wd}
theorem flat_rep {v : V} {d : D} (r : Rep X.K ca w v d) (h : flatD d = true) : flatV v = true := by
  cases r <;> first | rfl | cases h
theorem eq_flat {v u : V} {d e : D} (r : Rep X.K ca w v d) (s : Rep X.K ca w u e) (h : flatD d = true) (k : flatD e = true) : eqV v u = eqB d e := by
  cases r <;> first
    | (cases h; done)
    | (cases s <;> first | (cases k; done) | (simp [eqV, eqB, Py.b2i]; done))
theorem any_flat {u : V} {e : D} (s : Rep X.K ca w u e) (k : flatD e = true) : ∀ {vs : List V} {ds : List D}, RepL X.K ca w vs ds → ds.all flatD = true → (vs.any fun y => eqV y u) = ds.any fun y => eqB y e
  | _, _, .nil, _ => rfl
  | _, _, .cons r t, h => by
    rw [List.all_cons, Bool.and_eq_true] at h
    rw [List.any_cons, List.any_cons, eq_flat r s h.1 k, any_flat s k t h.2]
theorem all_flat : ∀ {vs : List V} {ds : List D}, RepL X.K ca w vs ds → ds.all flatD = true → vs.all flatV = true
  | _, _, .nil, _ => rfl
  | _, _, .cons r t, h => by
    rw [List.all_cons, Bool.and_eq_true] at h
    rw [List.all_cons, flat_rep r h.1, all_flat t h.2]
    rfl
theorem any_toP {x : D} (hx : pureB x = true) : ∀ {ys : List D}, pureL ys = true → ((toPs ys).any fun z => PyData.eqv z (toP x)) = ys.any fun y => eqB y x
  | [], _ => rfl
  | y :: ys, h => by
    unfold pureL at h
    rw [Bool.and_eq_true] at h
    unfold toPs
    rw [List.any_cons, List.any_cons, eqv_toP y x h.1 hx, any_toP hx h.2]
theorem fit_pure {d : D} (h : fit d = true) : pureB d = true := by
  unfold fit at h
  rw [Bool.and_eq_true] at h
  exact h.1
theorem look_lst {v : V} {d : D} {ys : List D} {w : Wd} (s : SOk X.K ca w) (r : Rep X.K ca w v d) (e : look d w.S = some (.lst ys)) (h : fit (.lst ys) = true) : Dp X.K w.H v (.list (toPs ys)) := by
  have z := look_dp s r e h
  unfold toP at z
  exact z
theorem r_in (hu : X.A.units + 65 < cLine) : OpR X (compareOp .In) (rO2 X.K ca (oIn false)) := opImp (opOr op_in_seq (op_inD hu)) fun x y H Q h => by
  obtain ⟨w, dx, dy, e, sk, r1, r2, q⟩ := h
  subst e
  have other : Sat (match look dx w.S, look dy w.S with
      | some x, some (.lst ys) => if fit x && fit (.lst ys) then Py.R.ok (.bl (false != ys.any fun y => eqB y x)) w.S else .bad
      | _, _ => .bad) (QV X.K ca w Q) (fun _ _ _ => False) → rInD X.K x y w.H Q := fun q => by
    split at q
    · rename_i d ys q1 q2
      by_cases hf : (fit d && fit (.lst ys)) = true
      · rw [if_pos hf] at q
        rw [Bool.and_eq_true] at hf
        refine ⟨toP d, toPs ys, look_dp sk r1 q1 hf.1, look_lst sk r2 q2 hf.2, shaped_fit hf.1, by have z := shaped_fit hf.2; unfold toP at z; exact z, ?_⟩
        rw [any_toP (fit_pure hf.1) (by have z := fit_pure hf.2; unfold pureB at z; exact z)]
        have z := sat_here sk q (.bl _)
        simpa using z
      · rw [if_neg hf] at q; exact q.elim
    · exact q.elim
  unfold oIn at q
  cases r2 with
  | @tup A vs ys hq ra =>
    dsimp only at q
    by_cases hf : (flatD dx && ys.all flatD) = true
    · rw [if_pos hf] at q
      rw [Bool.and_eq_true] at hf
      refine .inl ⟨A, vs, rfl, .inr hq, flat_rep r1 hf.1, all_flat ra hf.2, ?_⟩
      have z := sat_here sk q (.bl _)
      rw [if_neg (by simp)]
      unfold inV
      rw [any_flat r1 hf.1 ra hf.2]
      simpa using z
    · rw [if_neg hf] at q; exact q.elim
  | _ => exact .inr (other q)
theorem r_nin (hu : X.A.units + 65 < cLine) : OpR X (compareOp .NotIn) (rO2 X.K ca (oIn true)) := opImp (opOr op_notIn_seq (op_notInD hu)) fun x y H Q h => by
  obtain ⟨w, dx, dy, e, sk, r1, r2, q⟩ := h
  subst e
  have other : Sat (match look dx w.S, look dy w.S with
      | some x, some (.lst ys) => if fit x && fit (.lst ys) then Py.R.ok (.bl (true != ys.any fun y => eqB y x)) w.S else .bad
      | _, _ => .bad) (QV X.K ca w Q) (fun _ _ _ => False) → rNotInD X.K x y w.H Q := fun q => by
    split at q
    · rename_i d ys q1 q2
      by_cases hf : (fit d && fit (.lst ys)) = true
      · rw [if_pos hf] at q
        rw [Bool.and_eq_true] at hf
        refine ⟨toP d, toPs ys, look_dp sk r1 q1 hf.1, look_lst sk r2 q2 hf.2, shaped_fit hf.1, by have z := shaped_fit hf.2; unfold toP at z; exact z, ?_⟩
        rw [any_toP (fit_pure hf.1) (by have z := fit_pure hf.2; unfold pureB at z; exact z)]
        have z := sat_here sk q (.bl _)
        simpa using z
      · rw [if_neg hf] at q; exact q.elim
    · exact q.elim
  unfold oIn at q
  cases r2 with
  | @tup A vs ys hq ra =>
    dsimp only at q
    by_cases hf : (flatD dx && ys.all flatD) = true
    · rw [if_pos hf] at q
      rw [Bool.and_eq_true] at hf
      refine .inl ⟨A, vs, rfl, .inr hq, flat_rep r1 hf.1, all_flat ra hf.2, ?_⟩
      have z := sat_here sk q (.bl _)
      rw [if_pos rfl]
      unfold inV
      rw [any_flat r1 hf.1 ra hf.2]
      simpa using z
    · rw [if_neg hf] at q; exact q.elim
  | _ => exact .inr (other q)
end
section
variable {X : Cx} {ca : Nat → Addr} {W : WX} {pos : Pos} {f g h : Den} {a b c : Expr}
theorem s_par3 {i j l : Nat} {x y z : Str} {px py pz pt : Pos} {kt k2 pt2} (hc : X.calm = true) (hN : X.N.Nodup) (hi : X.N[i]? = some x) (hj : X.N[j]? = some y) (hl : X.N[l]? = some z) (hij : i ≠ j) (hil : i ≠ l) (hjl : j ≠ l)
    (hx : X.env.scope.names.lookup x = some .local) (hy : X.env.scope.names.lookup y = some .local) (hz : X.env.scope.names.lookup z = some .local) (ha : PE X a (tE X.K ca W f)) (hb : PE X b (tE X.K ca W g)) (hcc : PE X c (tE X.K ca W h))
    (hw : swappedStores [.Tuple [.Name x px, .Name y py, .Name z pz] kt pt] (.Tuple [a, b, c] k2 pt2) X.env = pure (some [x, y, z])) (hst : starEach [a, b, c] X.env = (false, eval a X.env) :: starEach [b, c] X.env := by rfl) (hst2 : starEach [b, c] X.env = (false, eval b X.env) :: starEach [c] X.env := by rfl) (hst3 : starEach [c] X.env = (false, eval c X.env) :: starEach [] X.env := by rfl)
    (hs : swapsWithSole [.Tuple [.Name x px, .Name y py, .Name z pz] kt pt] (.Tuple [a, b, c] k2 pt2) pos.line X.env = pure false := by rfl) :
    PS X (.Assign [.Tuple [.Name x px, .Name y py, .Name z pz] kt pt] (.Tuple [a, b, c] k2 pt2) pos) (tS X.K ca W (sPar3 i j l f g h)) :=
  PS.imp (ps_par3 hc hN hi hj hl hij hil hjl hx hy hz (pa_cons ha (pa_cons hb (pa_cons hcc pa_nil hst3) hst2) hst) hw hs) fun U σ H ⟨w, env, e, s, m, hh⟩ =>
    tE_then (k := fun d S1 => match g env S1 with
      | .ok d2 S2 => (match h env S2 with | .ok d3 S3 => RS.next (((env.set i (some d)).set j (some d2)).set l (some d3)) S3 | .err c v S3 => RS.err c v env S3 | .bad => .bad)
      | .err c v S2 => RS.err c v env S2 | .bad => .bad) e s m hh fun w1 d v s1 m1 r x q =>
      tE_then (f := g) (k := fun d2 S2 => match h env S2 with | .ok d3 S3 => RS.next (((env.set i (some d)).set j (some d2)).set l (some d3)) S3 | .err c v S3 => RS.err c v env S3 | .bad => .bad) rfl s1 m1 q fun w2 d2 v2 s2 m2 r2 x2 q2 =>
        tE_then (f := h) (k := fun d3 S3 => RS.next (((env.set i (some d)).set j (some d2)).set l (some d3)) S3) rfl s2 m2 q2 fun w3 d3 v3 s3 m3 r3 x3 q3 =>
          ⟨v, v2, v3, rfl, Aft.here (w' := w3) q3 (.refl w3) s3 _ (((m3.set i ((r.mono x2 s1).mono x3 s2)).set j (r2.mono x3 s2)).set l r3)⟩
end
end Py

set_option maxHeartbeats 4000000
/-! PyLt: x in a tuple of any plain values. -/
namespace Py
open PySem PySem.Spec PyProof.Rows L2
/-- x in (.., .., ..) -/
def oInT : Op2 := fun a b S => match look a S, look b S with
  | some x, some (.tup ys) => if fit x && fit (.tup ys) then .ok (.bl (ys.any fun y => eqB y x)) S else .bad
  | _, _ => .bad
theorem m_inT : Mute2 oInT := by
  intro a b S c v S' h; revert h; unfold oInT
  split
  · split <;> simp
  · simp
section
variable {X : Cx} {ca : Nat → Addr} {W : WX} {w : Wd}
def rInDT (K : PySem.W.Frag) : R2 := fun x y H Q => ∃ d ds, Dp K H x d ∧ Dp K H y (.tuple ds) ∧ SeqAt.shaped d = true ∧ SeqAt.shaped (.tuple ds) = true ∧ Q (.bl (ds.any fun z => PyData.eqv z d)) H
theorem op_inDT (hu : X.A.units + 65 < cLine) : OpR X (compareOp .In) (rInDT X.K) := by
  intro pins s σ H x y v u Q I rx ry h
  obtain ⟨d, ds, hd, he, sd, se, q⟩ := h
  obtain ⟨as, r1⟩ := Dp.reads I d x v hd rx
  obtain ⟨bs, r2⟩ := Dp.reads I (.tuple ds) y u he ry
  exact SeqAt.in_tuple_reads r2 r1 (SeqAt.canLay_of_shaped se) (SeqAt.canLay_of_shaped sd) (room_in_shaped sd hu) ⟨.bl _, H, I, rfl, q⟩
theorem look_tup {v : V} {d : D} {ys : List D} {w : Wd} (s : SOk X.K ca w) (r : Rep X.K ca w v d) (e : look d w.S = some (.tup ys)) (h : fit (.tup ys) = true) : Dp X.K w.H v (.tuple (toPs ys)) := by
  have z := look_dp s r e h
  unfold toP at z
  exact z
theorem r_inT (hu : X.A.units + 65 < cLine) : OpR X (compareOp .In) (rO2 X.K ca oInT) := opImp (op_inDT hu) fun x y H Q h => by
  obtain ⟨w, dx, dy, e, sk, r1, r2, q⟩ := h
  subst e
  unfold oInT at q
  split at q
  · rename_i d ys q1 q2
    by_cases hf : (fit d && fit (.tup ys)) = true
    · rw [if_pos hf] at q
      rw [Bool.and_eq_true] at hf
      refine ⟨toP d, toPs ys, look_dp sk r1 q1 hf.1, look_tup sk r2 q2 hf.2, shaped_fit hf.1, by have z := shaped_fit hf.2; unfold toP at z; exact z, ?_⟩
      rw [any_toP (fit_pure hf.1) (by have z := fit_pure hf.2; unfold pureB at z; exact z)]
      have z := sat_here sk q (.bl _)
      simpa using z
    · rw [if_neg hf] at q; exact q.elim
  · exact q.elim
end
end Py

set_option maxHeartbeats 4000000
/-! PyM: what the head needs. -/
namespace Py
open PySem PySem.Spec PyProof.Rows L2

def exM (anc : Anc) (j : Nat) : Nat → Option Bool := fun k => if k < anc.length then some ((anc.getD k []).contains j) else none
theorem exM_ok {K : PySem.W.Frag} {ca : Nat → Addr} {anc : Anc} {j : Nat} (C : ClsOk K ca anc) (hj : j < anc.length) : ∀ k b, exM anc j k = some b → PySem.W.exmOne K (.ref (ca k)) (.ref (ca j)) = some b := fun k b h => by
  unfold exM at h
  by_cases hk : k < anc.length
  · rw [if_pos hk] at h
    rw [C.ex k j hk hj]
    exact h
  · rw [if_neg hk] at h; cases h
/-- the first def of a class -/
def clsM (st : Stmt) : Stmt := match st with
  | .ClassDef _ _ _ body .. => (body.find? fun s => match s with | .FunctionDef .. => true | _ => false).getD st
  | s => s

/-! ### the head's facts -/
abbrev AlX : Type := He.AlD × Bool
def obsX (fa : List He.Fa) (fn : List He.DefD) (fx : PySem.W.Frag → Bool) (K : PySem.W.Frag) : AlX := (He.obsD fa fn K, fx K)
def valX (fn : List He.DefD) : AlX := (He.valD fn, true)
def SaysX (fa : List He.Fa) (fn : List He.DefD) (fx : PySem.W.Frag → Bool) (K : PySem.W.Frag) : Prop := obsX fa fn fx K = valX fn
def obsXG (n : Nat) (fa : List He.Fa) (fn : List He.DefD) (fx : PySem.W.Frag → Bool) (g : Addr → Option Obj) : AlX := obsX fa fn fx (He.frG g (He.asD g n))
def hookX (n : Nat) (fa : List He.Fa) (fn : List He.DefD) (fx : PySem.W.Frag → Bool) : PySem.W.Hook where
  α := AlX
  obs := fun s => obsXG n fa fn fx s.heap.get?
  val := fun _ => valX fn
  says := fun _ h => ∃ K : PySem.W.Frag, K.In h ∧ SaysX fa fn fx K
  of := fun _ _ e => ⟨_, He.frG_in, e⟩
  keeps := fun _ _ _ ⟨K, hK, c⟩ k => ⟨K, PySem.W.Frag.In.keeps hK k, c⟩
theorem obsXG_eq {n : Nat} {fa : List He.Fa} {fn : List He.DefD} {fx : PySem.W.Frag → Bool} {g : Addr → Option Obj} {s : Shared} (h : ∀ a, g a = s.heap.get? a) : obsXG n fa fn fx g = (hookX n fa fn fx).obs s := by
  have e : g = s.heap.get? := funext h
  rw [e] <;> rfl
theorem SaysX.d {fa : List He.Fa} {fn : List He.DefD} {fx : PySem.W.Frag → Bool} {K : PySem.W.Frag} (c : SaysX fa fn fx K) : He.SaysD fa fn K := congrArg (fun z : AlX => z.1) c
theorem SaysX.x {fa : List He.Fa} {fn : List He.DefD} {fx : PySem.W.Frag → Bool} {K : PySem.W.Frag} (c : SaysX fa fn fx K) : fx K = true := congrArg (fun z : AlX => z.2) c

/-! ### a law's def at the end -/
theorem fn_cx0 {P : Program} {w : World} {K : PySem.W.Frag} {mg : Str → Option Value} {base : Heap} {k : Nat} {f : Addr} {fd : FuncData} {ps : List Str} {sp : Sp} (F : FnOk P w K mg base (L2N.CX P w) k f fd ps sp) :
    FnOk P w K mg base CX0 k f fd ps (fun vs H Q _ => sp vs H Q fun _ _ _ => False) where
  len := fun vs H Q E h => F.len vs H Q _ h
  run := fun A outer s H args us vs Q E hr he hb r h => codeAny_mono (F.run A outer s H args us vs Q (fun _ _ _ => False) hr he hb r h) fun r s' hq => by
    cases r with
    | error e =>
      obtain ⟨_, _, _, _, _, _, _, _, _, _, _, _, z⟩ := hq
      exact z.elim
    | ok fl => cases fl <;> exact hq
theorem start_ok {K : PySem.W.Frag} {ca : Nat → Addr} {H : Hp} {a : Addr} {ns : List Int} (hO : Only H) (hS : SqL K H a (ns.map V.int)) : SOk K ca ⟨H, fun _ => 0, []⟩ ∧ Rep K ca ⟨H, fun _ => 0, []⟩ (.ref a) (.fls ns) := by
  refine ⟨⟨fun n xs q => (by simp at q), fun n m xs ys q => (by simp at q)⟩, .fls ?_⟩
  rcases hS with (h | ⟨o, h⟩) | h
  · rcases hO a with z | ⟨o, xs, z⟩
    · rw [z] at h; cases h
    · rw [z] at h; cases h
  · exact .inl ⟨o, h⟩
  · exact .inr h
theorem law_sp {K : PySem.W.Frag} {ca : Nat → Addr} {Γ : Calls} {i : Nat} {H : Hp} {a : Addr} {ns : List Int} {S' : Store} (hO : Only H) (hS : SqL K H a (ns.map V.int)) (h : Γ i [.fls ns] [] = .ok (.bl true) S') :
    spF K ca Γ i 1 [.ref a] H (fun v _ => v = .bl true) (fun _ _ _ => False) := by
  obtain ⟨s, r⟩ := start_ok (ca := ca) hO hS
  refine ⟨_, [.fls ns], rfl, rfl, s, .cons r .nil, ?_⟩
  rw [h]
  intro w1 hS x1 s1 v rv
  cases rv
  rfl
/-- the constructor's place, a class's facts -/
def excB (K : PySem.W.Frag) (ca : Nat → Addr) (anc : Anc) (fI : Addr) : Bool := clsB K ca anc && ((List.range anc.length).all (fun c => decide (PySem.W.findIn K (.ref (ca c)) "__init__" = some (some (.ref fI)))) && decide (PySem.W.typeIn K (.ref fI) = some (.type "function")))
theorem excB_ok {K : PySem.W.Frag} {ca : Nat → Addr} {anc : Anc} {fI : Addr} (h : excB K ca anc fI = true) : ClsOk K ca anc ∧ (∀ c, c < anc.length → ExcT K (ca c) fI) ∧ PySem.W.typeIn K (.ref fI) = some (.type "function") := by
  unfold excB at h
  rw [Bool.and_eq_true, Bool.and_eq_true] at h
  have C := clsB_ok h.1
  exact ⟨C, fun c hc => ⟨C.oex c hc, of_decide_eq_true (List.all_eq_true.mp h.2.1 c (List.mem_range.mpr hc)), C.noval c hc⟩, of_decide_eq_true h.2.2⟩
def bltB (K : PySem.W.Frag) (x : Str) (id : String) : Bool := decide (PySem.W.nsIn K mainGlobals x = some (some (.builtin id)))
theorem bltB_ok {K : PySem.W.Frag} {h : Heap} {mg : Str → Option Value} {x : Str} {id : String} (X : K.In h) (G : h.Ns mainGlobals mg) (c : bltB K x id = true) : mg x = some (.builtin id) := PySem.W.mg_of X G (of_decide_eq_true c)

/-! ### constants of the module -/
def GloD (K : PySem.W.Frag) (ca : Nat → Addr) (mg : Str → Option Value) (x : Str) (d : D) : Prop := ∃ (v : V) (u : Value), mg x = some u ∧ RelV v u ∧ ∀ w : Wd, Rep K ca w v d
theorem e_gl {X : Cx} {ca : Nat → Addr} {W : WX} {pos : Pos} {x : Str} {d : D} (h : GloD X.K ca X.mg x d) (hg : Gl X x) (hd : (x == ("__debug__" : Str)) = false := by decide) : PE X (.Name x pos) (tE X.K ca W (eC d)) := by
  obtain ⟨v, u, hm, r, rd⟩ := h
  exact e_glob hg hm r rd hd
section
variable {K : PySem.W.Frag} {ca : Nat → Addr} {h : Heap} {mg : Str → Option Value} {x : Str}
theorem glo_int (X : K.In h) (G : h.Ns mainGlobals mg) {i : Int} (c : (He.Fa.int x i).ok K = true) : GloD K ca mg x (.int i) := by
  obtain ⟨t, e⟩ := He.int_ok X G c
  exact ⟨.int i, _, e, ⟨t, rfl⟩, fun w => .int i⟩
theorem glo_str (X : K.In h) (G : h.Ns mainGlobals mg) {z : Str} (c : (He.Fa.str x z).ok K = true) : GloD K ca mg x (.str z) := by
  obtain ⟨t, e⟩ := He.str_ok X G c
  exact ⟨.str z, _, e, ⟨t, rfl⟩, fun w => .str z⟩
theorem glo_tup (X : K.In h) (G : h.Ns mainGlobals mg) {vs : List He.Dv} {ds : List D} (c : ((He.Fa.glo x).ok K && He.tupB K x vs) = true) (r : ∀ w : Wd, RepL K ca w (vs.map (He.Dv.v K)) ds) : GloD K ca mg x (.tup ds) := by
  rw [Bool.and_eq_true] at c
  exact ⟨.ref (He.ga K x), _, He.glo_ok X G c.1, rfl, fun w => .tup (He.tupB_ok c.2 _) (r w)⟩
end
end Py

set_option maxHeartbeats 4000000
/-! PyN: reckoning with what is computed. -/
namespace Py
open PySem (Str sizeLine)
section
variable {d d1 d2 : D} {e : Env} {S S1 : Store} {f g h : Den} {gs hs : Dens} {i j : Nat} {t u : DenT} {F G : DenS} {Γ : Calls}
@[simp] theorem eC_ap : eC d e S = .ok d S := rfl
theorem eVar_ap (h : e[i]? = some (some d)) : eVar i e S = .ok d S := by unfold eVar; rw [h]
@[simp] theorem eVar_c0 {o : Env} : eVar 0 (some d :: o) S = .ok d S := rfl
@[simp] theorem eVar_c {x : Option D} {o : Env} {i : Nat} : eVar (i + 1) (x :: o) S = eVar i o S := rfl
@[simp] theorem dNil_ap : dNil e S = .ok [] S := rfl
@[simp] theorem dCons_ap : dCons f gs e S = (f e S).bind fun a S1 => (gs e S1).bind fun as S2 => .ok (a :: as) S2 := rfl
@[simp] theorem eTup_ap : eTup gs e S = (gs e S).bind fun as S1 => .ok (.tup as) S1 := rfl
@[simp] theorem eLst_ap : eLst gs e S = (gs e S).bind fun as S1 => .ok (.lst as) S1 := rfl
@[simp] theorem eNew_ap : eNew gs e S = (gs e S).bind fun as S1 => .ok (.ref S1.length) (S1 ++ [.lst as]) := rfl
@[simp] theorem eBin_ap {o : Op2} : eBin o f g e S = (f e S).bind fun a S1 => (g e S1).bind fun b S2 => o a b S2 := rfl
@[simp] theorem eUn_ap {o : Op1} : eUn o f e S = (f e S).bind fun a S1 => o a S1 := rfl
@[simp] theorem eFn_ap {o : OpN} : eFn o gs e S = (gs e S).bind fun as S1 => o as S1 := rfl
@[simp] theorem dFn_ap {o : OpF} : dFn o gs e S = (gs e S).bind fun as S1 => o as S1 := rfl
@[simp] theorem eCall_ap : eCall Γ i gs e S = (gs e S).bind fun as S1 => Γ i as S1 := rfl
@[simp] theorem eCallP_ap {js : List Nat} : eCallP Γ i js gs hs e S = (gs e S).bind fun as S1 => (hs e S1).bind fun bs S2 => Γ i (perm js (as ++ bs)) S2 := rfl
@[simp] theorem eIf_ap : eIf t f g e S = (t e S).bind fun b S1 => if b then f e S1 else g e S1 := rfl
@[simp] theorem eIsi_ap {anc : Anc} {cs : List Cl} : eIsi anc cs f e S = (f e S).bind fun d S1 => optR (kdOf anc d S1) fun k => .ok (.bl (cs.any (isK anc k))) S1 := rfl
@[simp] theorem eVal_ap {anc : Anc} : eVal anc f e S = (f e S).bind fun d S1 => exVal anc d S1 := rfl
@[simp] theorem eSetI_ap {o i : Den} : eSetI f o i e S = (f e S).bind fun v S1 => (o e S1).bind fun d S2 => (i e S2).bind fun k S3 => chg (kSet k v) d S3 := rfl
@[simp] theorem eApp_ap {o : Den} : eApp o f e S = (o e S).bind fun d S1 => (f e S1).bind fun v S2 => chg (kApp v) d S2 := rfl
@[simp] theorem ePop_ap {o : Den} : ePop o e S = (o e S).bind fun d S1 => chg kPop d S1 := rfl
@[simp] theorem eIns_ap {o i : Den} : eIns o i f e S = (o e S).bind fun d S1 => (i e S1).bind fun k S2 => (f e S2).bind fun v S3 => chg (kIns k v) d S3 := rfl
@[simp] theorem eAnd_ap : eAnd f g e S = (f e S).bind fun a S1 => match a with | .bl true => g e S1 | .bl false => .ok (.bl false) S1 | _ => .bad := rfl
@[simp] theorem eOr_ap : eOr f g e S = (f e S).bind fun a S1 => match a with | .bl true => .ok (.bl true) S1 | .bl false => g e S1 | _ => .bad := rfl
@[simp] theorem eNot_ap : eNot f e S = (f e S).bind fun a S1 => match a with | .bl b => .ok (.bl (!b)) S1 | _ => .bad := rfl
@[simp] theorem tVal_ap : tVal f e S = (f e S).bind fun a S1 => match a with | .bl b => .ok b S1 | _ => .bad := rfl
@[simp] theorem tNot_ap : tNot t e S = (t e S).bind fun b S1 => .ok (!b) S1 := rfl
@[simp] theorem tAnd_ap : tAnd t u e S = (t e S).bind fun b S1 => if b then u e S1 else .ok false S1 := rfl
@[simp] theorem tOr_ap : tOr t u e S = (t e S).bind fun b S1 => if b then .ok true S1 else u e S1 := rfl
@[simp] theorem sSeq_ap : sSeq F G e S = (match F e S with | .next e1 S1 => G e1 S1 | r => r) := rfl
@[simp] theorem sPass_ap : sPass e S = .next e S := rfl
@[simp] theorem sExpr_ap : sExpr f e S = (match f e S with | .ok _ S1 => .next e S1 | .err c v S1 => .err c v e S1 | .bad => .bad) := rfl
@[simp] theorem sSet_ap : sSet i f e S = (match f e S with | .ok d S1 => .next (e.set i (some d)) S1 | .err c v S1 => .err c v e S1 | .bad => .bad) := rfl
@[simp] theorem sRet_ap : sRet f e S = (match f e S with | .ok d S1 => .ret d S1 | .err c v S1 => .err c v e S1 | .bad => .bad) := rfl
@[simp] theorem sRetN_ap : sRetN e S = .ret .non S := rfl
@[simp] theorem sIf_ap : sIf t F G e S = (match t e S with | .ok c S1 => if c then F e S1 else G e S1 | .err c v S1 => .err c v e S1 | .bad => .bad) := rfl
@[simp] theorem sBrk_ap : sBrk e S = .brk e S := rfl
@[simp] theorem sRaise_ap {c : Nat} : sRaise c f e S = (match f e S with | .ok d S1 => .err c d e S1 | .err c v S1 => .err c v e S1 | .bad => .bad) := rfl
@[simp] theorem sPar_ap : sPar i j f g e S = (match f e S with
  | .ok d S1 => (match g e S1 with | .ok d2 S2 => .next ((e.set i (some d)).set j (some d2)) S2 | .err c v S2 => .err c v e S2 | .bad => .bad)
  | .err c v S1 => .err c v e S1
  | .bad => .bad) := rfl
@[simp] theorem sAsg_ap {k : Tgt} : sAsg k f e S = (match f e S with | .ok d S1 => (match k d e S1 with | some e1 => .next e1 S1 | none => .bad) | .err c v S1 => .err c v e S1 | .bad => .bad) := rfl
@[simp] theorem gNm_ap : gNm i d e S = some (e.set i (some d)) := rfl
@[simp] theorem gTup_ap {ks : List Tgt} {xs : List D} : gTup ks (.tup xs) e S = gAll ks xs e S := rfl
@[simp] theorem gAll_nil : gAll [] [] e S = some e := rfl
@[simp] theorem gAll_cons {k : Tgt} {ks : List Tgt} {x : D} {xs : List D} : gAll (k :: ks) (x :: xs) e S = (match k x e S with | some e1 => gAll ks xs e1 S | none => none) := rfl
@[simp] theorem optR_some {α β : Type} {a : α} {k : α → R β} : optR (some a) k = k a := rfl
@[simp] theorem optR_none {α β : Type} {k : α → R β} : optR none k = .bad := rfl
@[simp] theorem rcv_ap : rcv f e S = (f e S).bind fun d S1 => match d with | .ref n => (match S1[n]? with | some (.lst _) => .ok d S1 | _ => .bad) | _ => .bad := rfl
/-! operations of ints -/
variable {a b : Int}
@[simp] theorem oAdd_i : oAdd (.int a) (.int b) S = .ok (.int (a + b)) S := rfl
@[simp] theorem oCat_i : oCat (.int a) (.int b) S = .ok (.int (a + b)) S := rfl
@[simp] theorem oSub_i : oSub (.int a) (.int b) S = .ok (.int (a - b)) S := rfl
@[simp] theorem oNeg_i : oNeg (.int a) S = .ok (.int (-a)) S := rfl
@[simp] theorem oLt_i : oLt (.int a) (.int b) S = .ok (.bl (decide (a < b))) S := rfl
@[simp] theorem oLe_i : oLe (.int a) (.int b) S = .ok (.bl (decide (a ≤ b))) S := rfl
@[simp] theorem oGt_i : oGt (.int a) (.int b) S = .ok (.bl (decide (b < a))) S := rfl
@[simp] theorem oGe_i : oGe (.int a) (.int b) S = .ok (.bl (decide (b ≤ a))) S := rfl
@[simp] theorem oInt_i : oInt [.int a] S = .ok (.int a) S := rfl
@[simp] theorem oAbs_i : oAbs [.int a] S = .ok (.int a.natAbs) S := rfl
@[simp] theorem oMax2_i : oMax2 [.int a, .int b] S = .ok (.int (max a b)) S := rfl
@[simp] theorem oMin2_i : oMin2 [.int a, .int b] S = .ok (.int (min a b)) S := rfl
@[simp] theorem oGcd_i : oGcd [.int a, .int b] S = .ok (.int (Nat.gcd a.natAbs b.natAbs : Nat)) S := rfl
@[simp] theorem oIsN_ap : oIsN d S = .ok (.bl (isNon d)) S := rfl
@[simp] theorem oNotN_ap : oNotN d S = .ok (.bl (!isNon d)) S := rfl
theorem oMod_i (h : b ≠ 0) : oMod (.int a) (.int b) S = .ok (.int (a.fmod b)) S := if_pos h
theorem oFdiv_i (h : divOk b = true) : oFdiv (.int a) (.int b) S = .ok (.int (a.fdiv b)) S := if_pos h
theorem oRep_i (h : mulOk a b = true) : oRep (.int a) (.int b) S = .ok (.int (a * b)) S := if_pos h
theorem oPow_i (h : powOk a b = true) : oPow (.int a) (.int b) S = .ok (.int (a ^ b.toNat)) S := if_pos h
@[simp] theorem look_i : look (.int a) S = some (.int a) := rfl
@[simp] theorem look_b {c : Bool} : look (.bl c) S = some (.bl c) := rfl
@[simp] theorem fit_i : fit (.int a) = true := rfl
@[simp] theorem fit_b {c : Bool} : fit (.bl c) = true := rfl
theorem oEq_fit {d1 d2 : D} (h1 : fit d1 = true) (h2 : fit d2 = true) : oEq d1 d2 S = .ok (.bl (eqB d1 d2)) S := by
  have p1 : look d1 S = some d1 := look_no (noRef_pure (fit_pure h1))
  have p2 : look d2 S = some d2 := look_no (noRef_pure (fit_pure h2))
  unfold oEq
  rw [p1, p2]
  simp only [h1, h2, Bool.and_self, if_true]
theorem oNe_fit {d1 d2 : D} (h1 : fit d1 = true) (h2 : fit d2 = true) : oNe d1 d2 S = .ok (.bl (!eqB d1 d2)) S := by
  have p1 : look d1 S = some d1 := look_no (noRef_pure (fit_pure h1))
  have p2 : look d2 S = some d2 := look_no (noRef_pure (fit_pure h2))
  unfold oNe
  rw [p1, p2]
  simp only [h1, h2, Bool.and_self, if_true]
@[simp] theorem oEq_i : oEq (.int a) (.int b) S = .ok (.bl (a == b)) S := oEq_fit rfl rfl
@[simp] theorem oNe_i : oNe (.int a) (.int b) S = .ok (.bl (!(a == b))) S := oNe_fit rfl rfl
@[simp] theorem oNe_b {c1 c2 : Bool} : oNe (.bl c1) (.bl c2) S = .ok (.bl (!(c1 == c2))) S := oNe_fit rfl rfl
@[simp] theorem oEq_b {c1 c2 : Bool} : oEq (.bl c1) (.bl c2) S = .ok (.bl (c1 == c2)) S := oEq_fit rfl rfl
theorem bits_lt {i : Int} {k : Nat} (h : i.natAbs < 2 ^ k) : bits i ≤ k + 1 := by
  unfold bits
  by_cases h0 : i.natAbs = 0
  · rw [h0]; simp
  · have := (Nat.log2_lt h0).mpr h
    omega
theorem mulOk_small {a b : Int} (ha : a.natAbs < 2 ^ 1000) (hb : b.natAbs < 2 ^ 1000) : mulOk a b = true := by
  unfold mulOk
  have h1 := bits_lt ha
  have h2 := bits_lt hb
  exact decide_eq_true (by omega)
theorem divOk_small {b : Int} (h0 : b ≠ 0) (hb : b.natAbs < 2 ^ 1000) : divOk b = true := by
  unfold divOk
  rw [Bool.and_eq_true]
  have h1 := bits_lt hb
  unfold bits at h1
  exact ⟨decide_eq_true h0, decide_eq_true (by omega)⟩
theorem powOk_small {a b : Int} (h0 : 0 ≤ b) (h1 : b ≤ 1000000) (ha : a.natAbs < 2 ^ 64) : powOk a b = true := by
  unfold powOk
  rw [Bool.and_eq_true, Bool.and_eq_true]
  exact ⟨decide_eq_true h0, decide_eq_true h1, decide_eq_true ha⟩
end
/-- a loop by its invariant -/
theorem forL_inv {g : Tgt} {b : DenS} {xs : List D} (P : Nat → Env → Store → Prop)
    (step : ∀ i x e S, xs[i]? = some x → P i e S → ∃ e1, g x e S = some e1 ∧ ∃ e2 S2, (b e1 S = .next e2 S2 ∨ b e1 S = .cont e2 S2) ∧ P (i + 1) e2 S2) :
    ∀ (e : Env) (S : Store), P 0 e S → ∃ e' S', forL g b xs e S = .next e' S' ∧ P xs.length e' S' := by
  have go : ∀ (ys : List D) (i : Nat), xs.drop i = ys → i ≤ xs.length → ∀ e S, P i e S → ∃ e' S', forL g b ys e S = .next e' S' ∧ P xs.length e' S' := by
    intro ys
    induction ys with
    | nil =>
      intro i hd hi e S hp
      have : xs.length ≤ i := List.drop_eq_nil_iff.mp hd
      have e1 : i = xs.length := by omega
      subst e1
      exact ⟨e, S, rfl, hp⟩
    | cons y ys ih =>
      intro i hd hi e S hp
      have hlt : i < xs.length := by
        apply Classical.byContradiction
        intro hn
        rw [List.drop_eq_nil_of_le (by omega)] at hd
        cases hd
      have hx : xs[i]? = some y := by
        have := List.drop_eq_getElem_cons hlt
        rw [hd] at this
        injection this with h1 h2
        rw [h1, List.getElem?_eq_getElem hlt]
      obtain ⟨e1, hg, e2, S2, hb, hp2⟩ := step i y e S hx hp
      have hd2 : xs.drop (i + 1) = ys := by
        have := List.drop_eq_getElem_cons hlt
        rw [hd] at this
        injection this with h1 h2
        exact h2.symm
      obtain ⟨e', S', h1, h2⟩ := ih (i + 1) hd2 hlt e2 S2 hp2
      refine ⟨e', S', ?_, h2⟩
      unfold forL
      rw [hg]
      dsimp only
      rcases hb with hb | hb <;> rw [hb] <;> exact h1
  intro e S hp
  exact go xs 0 List.drop_zero (Nat.zero_le _) e S hp
theorem tidy_same {S S' : Store} {d : D} (h : S'.length = S.length) : tidy S (.ok d S') = .ok d S' := tidy_ok (Nat.le_of_eq h)
end Py
namespace Py
/-- a loop over a list of the store that stays as it is -/
theorem forR_inv {g : Tgt} {b : DenS} {n : Nat} {xs : List D} (P : Nat → Env → Store → Prop) (hS : ∀ i e S, P i e S → S[n]? = some (.lst xs))
    (step : ∀ i x e S, xs[i]? = some x → P i e S → ∃ e1, g x e S = some e1 ∧ ∃ e2 S2, (b e1 S = .next e2 S2 ∨ b e1 S = .cont e2 S2) ∧ P (i + 1) e2 S2) :
    ∀ (e : Env) (S : Store), P 0 e S → ∃ e' S', forW g b (wkR n) xs.length 0 e S = .next e' S' ∧ P xs.length e' S' := by
  have go : ∀ (f i : Nat), i + f = xs.length → ∀ e S, P i e S → ∃ e' S', forW g b (wkR n) f i e S = .next e' S' ∧ P xs.length e' S' := by
    intro f
    induction f with
    | zero =>
      intro i hi e S hp
      have h := hS i e S hp
      have hn : xs[i]? = none := List.getElem?_eq_none (by omega)
      refine ⟨e, S, ?_, by have : i = xs.length := by omega
                           rw [← this]; exact hp⟩
      unfold forW
      simp only [wkR, h, hn]
    | succ f ih =>
      intro i hi e S hp
      have h := hS i e S hp
      have hl : i < xs.length := by omega
      have hx : xs[i]? = some xs[i] := List.getElem?_eq_getElem hl
      obtain ⟨e1, hg, e2, S2, hb, hp2⟩ := step i _ e S hx hp
      obtain ⟨e', S', h1, h2⟩ := ih (i + 1) (by omega) e2 S2 hp2
      refine ⟨e', S', ?_, h2⟩
      unfold forW
      simp only [wkR, h, hx, hg]
      rcases hb with hb | hb <;> rw [hb] <;> exact h1
  intro e S hp
  exact go xs.length 0 (by omega) e S hp
end Py

set_option maxHeartbeats 4000000
/-! PyO: comprehensions that change nothing, lists of truths. -/
namespace Py
open PySem (Str sizeLine)
theorem lcW_pure {g : Tgt} {f : Den} {e0 : Env} {S : Store} {xs : List D} (φ : D → D)
    (hs : ∀ x ∈ xs, ∀ S', ∃ e1, g x e0 S' = some e1 ∧ f e1 S' = .ok (φ x) S') (hl : xs.length ≤ sizeLine) :
    ∀ (k i : Nat) (acc : List D), acc.length = i → i + k = xs.length → lcW g tYesD f (wkL xs) e0 S.length k i (S ++ [.lst acc]) = .ok () (S ++ [.lst (acc ++ (xs.drop i).map φ)])
  | 0, i, acc, ha, hk => by
    have hi : i = xs.length := by omega
    unfold lcW
    simp only [wkL, List.getElem?_eq_none (Nat.le_of_eq hi.symm)]
    rw [List.drop_eq_nil_of_le (Nat.le_of_eq hi.symm), List.map_nil, List.append_nil]
  | k + 1, i, acc, ha, hk => by
    have hi : i < xs.length := by omega
    obtain ⟨e1, h1, h2⟩ := hs xs[i] (List.getElem_mem hi) (S ++ [.lst acc])
    have hS : (S ++ [O.lst acc])[S.length]? = some (.lst acc) := by rw [List.getElem?_append_right (Nat.le_refl _), Nat.sub_self]; rfl
    have hset : (S ++ [O.lst acc]).set S.length (.lst (acc ++ [φ xs[i]])) = S ++ [.lst (acc ++ [φ xs[i]])] := by
      rw [List.set_append_right _ _ (Nat.le_refl _), Nat.sub_self]; rfl
    unfold lcW
    simp only [wkL, List.getElem?_eq_getElem hi, h1, tYesD, h2, hS]
    rw [if_pos (by omega), hset]
    have ih := lcW_pure (S := S) φ hs hl k (i + 1) (acc ++ [φ xs[i]]) (by rw [List.length_append, List.length_singleton]; omega) (by omega)
    rw [ih, List.drop_eq_getElem_cons hi, List.map_cons, List.append_assoc]
    rfl
theorem noRefL_map {xs : List D} {φ : D → D} (h : ∀ x ∈ xs, noRef (φ x) = true) : noRefL (xs.map φ) = true := by
  induction xs with
  | nil => rfl
  | cons x xs ih =>
    rw [List.map_cons]
    unfold noRefL
    rw [h x List.mem_cons_self, ih fun y hy => h y (List.mem_cons_of_mem _ hy)]
    rfl
theorem tidy_last {S : Store} {zs : List D} (h : noRefL zs = true) : tidy S (.ok (.ref S.length) (S ++ [.lst zs])) = .ok (.lst zs) S := by
  have hS : (S ++ [O.lst zs])[S.length]? = some (.lst zs) := by rw [List.getElem?_append_right (Nat.le_refl _), Nat.sub_self]; rfl
  have hr : res S.length (S ++ [.lst zs]) (.ref S.length) = some (.lst zs) := by
    unfold res mapR resN
    rw [if_neg (Nat.lt_irrefl _), hS]
    dsimp only
    rw [mapRL_no h]
    rfl
  rcases tidy_app (S := S) (T := [.lst zs]) hr with z | ⟨z, _⟩
  · exact z
  · cases z
theorem eLc_pure {vs : List Nat} {gi : DenI} {g : Tgt} {f : Den} {e : Env} {S : Store} {xs : List D} (φ : D → D) (hgi : gi e S = .ok (wkL xs, xs.length) S)
    (hs : ∀ x ∈ xs, ∀ S', ∃ e1, g x (wipeE e vs) S' = some e1 ∧ f e1 S' = .ok (φ x) S') (hn : ∀ x ∈ xs, noRef (φ x) = true) (hl : xs.length ≤ sizeLine) :
    eLc vs gi g tYesD f e S = .ok (.lst (xs.map φ)) S := by
  unfold eLc
  rw [hgi]
  simp only [R.bind]
  rw [lcW_pure φ hs hl xs.length 0 [] rfl (by omega)]
  simp only [List.nil_append, List.drop_zero]
  exact tidy_last (noRefL_map hn)
theorem isBls_map {xs : List D} {p : D → Bool} : isBls (xs.map fun x => .bl (p x)) = some (xs.map p) := by
  induction xs with
  | nil => rfl
  | cons x xs ih =>
    rw [List.map_cons, List.map_cons]
    unfold isBls
    rw [ih]
    rfl
theorem oAll_map {xs : List D} {p : D → Bool} {S : Store} : oAll [.lst (xs.map fun x => .bl (p x))] S = .ok (.bl (xs.all p)) S := by
  unfold oAll lst1
  have : (asL (.lst (xs.map fun x => D.bl (p x))) S).bind isBls = some (xs.map p) := isBls_map
  simp only [this]
  rw [List.all_map]
  rfl
theorem oAny_map {xs : List D} {p : D → Bool} {S : Store} : oAny [.lst (xs.map fun x => .bl (p x))] S = .ok (.bl (xs.any p)) S := by
  unfold oAny lst1
  have : (asL (.lst (xs.map fun x => D.bl (p x))) S).bind isBls = some (xs.map p) := isBls_map
  simp only [this]
  rw [List.any_map]
  rfl
theorem idx_ref {S : Store} {p : Nat} {xs : List D} {i : Int} {v : D} (h : S[p]? = some (.lst xs)) (hv : L2.atI xs i = some v) : oIdx (.ref p) (.int i) S = .ok v S := by
  show (match (asSq (.ref p) S).bind (L2.atI · i) with | some v => R.ok v S | none => .bad) = _
  have : asSq (.ref p) S = some xs := by show (match S[p]? with | some (.lst xs) => some xs | _ => none) = _; rw [h]
  rw [this, Option.bind_some, hv]
theorem idx_lst {S : Store} {xs : List D} {i : Int} {v : D} (hv : L2.atI xs i = some v) : oIdx (.lst xs) (.int i) S = .ok v S := by
  show (match (asSq (.lst xs) S).bind (L2.atI · i) with | some v => R.ok v S | none => .bad) = _
  have : asSq (.lst xs) S = some xs := rfl
  rw [this, Option.bind_some, hv]
@[simp] theorem idx_tup {S : Store} {xs : List D} {i : Int} : oIdx (.tup xs) (.int i) S = (match L2.atI xs i with | some v => .ok v S | none => .bad) := rfl
theorem chg_at {S : Store} {p : Nat} {k : List D → Option (List D × D)} {xs ys : List D} {r : D} (h : S[p]? = some (.lst xs)) (hk : k xs = some (ys, r)) : chg k (.ref p) S = .ok r (S.set p (.lst ys)) := by
  unfold chg; dsimp only; rw [h]; dsimp only; rw [hk]
theorem lt_of_get {S : Store} {p : Nat} {o : O} (h : S[p]? = some o) : p < S.length := (List.getElem?_eq_some_iff.mp h).1
theorem atI_nat {α : Type} {xs : List α} {i : Nat} (h : i < xs.length) : L2.atI xs (i : Int) = some xs[i] := by
  unfold L2.atI L2.ixN
  rw [if_pos (by omega), if_pos (by omega)]
  simp [h]
theorem pure_ints (l : List Int) : pureL (l.map D.int) = true := by
  induction l with
  | nil => rfl
  | cons i l ih => simp only [List.map_cons, pureL, pureB, ih, Bool.and_self]
theorem depth_ints (l : List Int) : depthL (l.map D.int) = 0 := by
  induction l with
  | nil => rfl
  | cons i l ih => simp only [List.map_cons, depthL, depth, ih, Nat.max_self]
theorem fit_ints (l : List Int) : fit (.lst (l.map D.int)) = true := by
  unfold fit pureB depth
  rw [pure_ints, depth_ints]
  rfl
theorem fit_tints (l : List Int) : fit (.tup (l.map D.int)) = true := by
  unfold fit pureB depth
  rw [pure_ints, depth_ints]
  rfl
@[simp] theorem at4_0 {a b c d : D} : L2.atI [a, b, c, d] 0 = some a := rfl
@[simp] theorem at4_1 {a b c d : D} : L2.atI [a, b, c, d] 1 = some b := rfl
@[simp] theorem at4_2 {a b c d : D} : L2.atI [a, b, c, d] 2 = some c := rfl
@[simp] theorem at4_3 {a b c d : D} : L2.atI [a, b, c, d] 3 = some d := rfl
@[simp] theorem at2_0 {a b : D} : L2.atI [a, b] 0 = some a := rfl
@[simp] theorem at2_1 {a b : D} : L2.atI [a, b] 1 = some b := rfl
@[simp] theorem at1_0 {a : D} : L2.atI [a] 0 = some a := rfl
theorem atI_c0 {α : Type} {a : α} {xs : List α} : L2.atI (a :: xs) 0 = some a := by
  unfold L2.atI L2.ixN
  rw [if_pos (by omega), if_pos (by simp only [List.length_cons]; omega)]
  rfl
theorem atI_c1 {α : Type} {a b : α} {xs : List α} : L2.atI (a :: b :: xs) 1 = some b := by
  unfold L2.atI L2.ixN
  rw [if_pos (by omega), if_pos (by simp only [List.length_cons]; omega)]
  rfl
theorem atI_c2 {α : Type} {a b c : α} {xs : List α} : L2.atI (a :: b :: c :: xs) 2 = some c := by
  unfold L2.atI L2.ixN
  rw [if_pos (by omega), if_pos (by simp only [List.length_cons]; omega)]
  rfl
/-- what is not the store's: the store stays beside p -/
def Fr1 (S S' : Store) (p : Nat) : Prop := S'.length = S.length ∧ ∀ k, k ≠ p → S'[k]? = S[k]?
theorem Fr1.refl {S : Store} {p : Nat} : Fr1 S S p := ⟨rfl, fun _ _ => rfl⟩
theorem Fr1.trans {S S1 S2 : Store} {p : Nat} (a : Fr1 S S1 p) (b : Fr1 S1 S2 p) : Fr1 S S2 p := ⟨b.1.trans a.1, fun k h => (b.2 k h).trans (a.2 k h)⟩
theorem Fr1.set {S : Store} {p : Nat} {o : O} : Fr1 S (S.set p o) p := ⟨List.length_set, fun k h => List.getElem?_set_ne (Ne.symm h)⟩
end Py

set_option maxHeartbeats 4000000
/-! PyP: what the laws' own helpers do: the pot. -/
namespace Py
open PySem (Str sizeLine)
/-- the store has the pot at p -/
def Pot (S : Store) (p : Nat) : Prop := ∃ (a b c : Int) (cs : List Int), S[p]? = some (.lst (.int a :: .int b :: .int c :: cs.map .int)) ∧ 0 ≤ a ∧ 0 ≤ b ∧ b < 2147483648 ∧ 3 ≤ c ∧ c ≤ 3 + cs.length ∧ cs.length ≤ 63
theorem Pot.lt {S : Store} {p : Nat} (h : Pot S p) : p < S.length := by
  obtain ⟨a, b, c, cs, h, _⟩ := h
  exact lt_of_get h
theorem Pot.app {S T : Store} {p : Nat} (h : Pot S p) : Pot (S ++ T) p := by
  have hl := h.lt
  obtain ⟨a, b, c, cs, h, r⟩ := h
  exact ⟨a, b, c, cs, by rw [List.getElem?_append_left hl]; exact h, r⟩
theorem Pot.same {S S' : Store} {p : Nat} (h : Pot S p) (e : S'[p]? = S[p]?) : Pot S' p := by
  obtain ⟨a, b, c, cs, h, r⟩ := h
  exact ⟨a, b, c, cs, e.trans h, r⟩
def takeD : DenS :=
  (sSeq (sIf (tAnd (tVal (eBin oEq (eBin oIdx (eVar 0) (eC (.int 0))) (eC (.int 0)))) (tVal (eBin oLt (eBin oIdx (eVar 0) (eC (.int 2))) (eFn oLen (dCons (eVar 0) dNil)))))
    (sSeq (sSet 2 (eBin oIdx (eVar 0) (eBin oIdx (eVar 0) (eC (.int 2)))))
    (sSeq (sExpr (eAugI (eVar 0) (eC (.int 2)) (fun i j => i + j) (eC (.int 1))))
    (sIf (tVal (eBin oGe (eVar 2) (eBin oPow (eC (.int 10)) (eC (.int 18)))))
    (sExpr (eSetI (eBin oSub (eVar 2) (eBin oPow (eC (.int 10)) (eC (.int 18)))) (eVar 0) (eC (.int 0))))
    (sSeq (sSet 3 (eBin oMod (eFn oInt (dCons (eVar 2) dNil)) (eC (.int 2147483647))))
    (sSeq (sSet 3 (eBin oMod (eFn oInt (dCons (eBin oCat (eBin oCat (eBin oRep (eVar 3) (eVar 3)) (eBin oRep (eC (.int 69621)) (eVar 3))) (eBin oRep (eC (.int 977)) (eBin oIdx (eVar 0) (eC (.int 2))))) dNil)) (eC (.int 2147483629))))
    (sExpr (eSetI (eBin oMod (eFn oInt (dCons (eBin oCat (eBin oIdx (eVar 0) (eC (.int 1))) (eVar 3)) dNil)) (eC (.int 2147483629))) (eVar 0) (eC (.int 1)))))))))
    sPass)
    (sSeq (sIf (tVal (eBin oGt (eBin oIdx (eVar 0) (eC (.int 0))) (eC (.int 0))))
    (sSeq (sSet 4 (eBin oMod (eFn oInt (dCons (eBin oIdx (eVar 0) (eC (.int 0))) dNil)) (eVar 1)))
    (sSeq (sExpr (eSetI (eBin oFdiv (eBin oIdx (eVar 0) (eC (.int 0))) (eVar 1)) (eVar 0) (eC (.int 0))))
    (sRet (eVar 4))))
    sPass)
    (sSeq (sExpr (eSetI (eBin oMod (eFn oInt (dCons (eBin oCat (eBin oCat (eBin oRep (eBin oIdx (eVar 0) (eC (.int 1))) (eC (.int 48271))) (eBin oRep (eC (.int 40692)) (eBin oIdx (eVar 0) (eC (.int 2))))) (eC (.int 11))) dNil)) (eC (.int 2147483647))) (eVar 0) (eC (.int 1))))
    (sSeq (sExpr (eSetI (eBin oMod (eFn oInt (dCons (eBin oCat (eBin oRep (eBin oIdx (eVar 0) (eC (.int 1))) (eBin oIdx (eVar 0) (eC (.int 1)))) (eC (.int 7))) dNil)) (eC (.int 2147483629))) (eVar 0) (eC (.int 1))))
    (sRet (eBin oMod (eFn oInt (dCons (eBin oFdiv (eBin oIdx (eVar 0) (eC (.int 1))) (eC (.int 8))) dNil)) (eVar 1)))))))
theorem kSet_c0 {v x : D} {xs : List D} : kSet (.int 0) v (x :: xs) = some (v :: xs, .non) := by
  unfold kSet L2.ixN
  simp only [List.length_cons]
  rw [if_pos (by omega), if_pos (by omega)]
  rfl
theorem kSet_c1 {v x y : D} {xs : List D} : kSet (.int 1) v (x :: y :: xs) = some (x :: v :: xs, .non) := by
  unfold kSet L2.ixN
  simp only [List.length_cons]
  rw [if_pos (by omega), if_pos (by omega)]
  rfl
theorem kSet_c2 {v x y z : D} {xs : List D} : kSet (.int 2) v (x :: y :: z :: xs) = some (x :: y :: v :: xs, .non) := by
  unfold kSet L2.ixN
  simp only [List.length_cons]
  rw [if_pos (by omega), if_pos (by omega)]
  rfl
theorem len_ref {S : Store} {p : Nat} {xs : List D} (h : S[p]? = some (.lst xs)) : oLen [.ref p] S = .ok (.int xs.length) S := by
  show (match asSq (.ref p) S with | some xs => R.ok (D.int xs.length) S | none => .bad) = _
  have : asSq (.ref p) S = some xs := by show (match S[p]? with | some (.lst xs) => some xs | _ => none) = _; rw [h]
  rw [this]
theorem augGet_c2 {S : Store} {p : Nat} {x y : D} {c : Int} {xs : List D} (h : S[p]? = some (.lst (x :: y :: .int c :: xs))) : augGet (.ref p) (.int 2) S = some c := by
  unfold augGet
  simp only [h]
  rfl
theorem sm {a : Int} {B : Nat} (h : a.natAbs ≤ B) (hB : B < 2 ^ 1000) : a.natAbs < 2 ^ 1000 := Nat.lt_of_le_of_lt h hB
theorem pow18 {S : Store} : oPow (.int 10) (.int 18) S = .ok (.int 1000000000000000000) S := by rw [oPow_i (by decide)]; rfl
theorem modOk {a b : Int} (h : 0 < b) {S : Store} : oMod (.int a) (.int b) S = .ok (.int (a.fmod b)) S := oMod_i (by omega)
theorem pot_cell {a b c : Int} {cs : List Int} (h3 : 3 ≤ c) (h4 : c < 3 + cs.length) : ∃ x : Int, L2.atI (D.int a :: .int b :: .int c :: cs.map .int) c = some (.int x) := by
  have hl : c.toNat < (D.int a :: .int b :: .int c :: cs.map D.int).length := by simp only [List.length_cons, List.length_map]; omega
  have e := atI_nat hl
  rw [show ((c.toNat : Nat) : Int) = c by omega] at e
  rw [e]
  have : ∀ y ∈ (D.int a :: .int b :: .int c :: cs.map D.int), ∃ x : Int, y = .int x := by
    intro y hy
    simp only [List.mem_cons, List.mem_map] at hy
    rcases hy with h | h | h | ⟨x, _, h⟩
    · exact ⟨_, h⟩
    · exact ⟨_, h⟩
    · exact ⟨_, h⟩
    · exact ⟨_, h.symm⟩
  obtain ⟨x, hx⟩ := this _ (List.getElem_mem hl)
  exact ⟨x, by rw [hx]⟩
theorem take_body {S : Store} {p : Nat} {m : Int} (hP : Pot S p) (h0 : 0 < m) (h1 : m.natAbs < 2 ^ 1000) :
    ∃ v S', runBody takeD 5 [.ref p, .int m] S = .ok (.int v) S' ∧ 0 ≤ v ∧ v < m ∧ Pot S' p ∧ Fr1 S S' p := by
  have hm0 : m ≠ 0 := by omega
  have hdm : divOk m = true := divOk_small hm0 h1
  have hA : ∃ o2 o3 S1, (sIf (tAnd (tVal (eBin oEq (eBin oIdx (eVar 0) (eC (.int 0))) (eC (.int 0)))) (tVal (eBin oLt (eBin oIdx (eVar 0) (eC (.int 2))) (eFn oLen (dCons (eVar 0) dNil)))))
    (sSeq (sSet 2 (eBin oIdx (eVar 0) (eBin oIdx (eVar 0) (eC (.int 2)))))
    (sSeq (sExpr (eAugI (eVar 0) (eC (.int 2)) (fun i j => i + j) (eC (.int 1))))
    (sIf (tVal (eBin oGe (eVar 2) (eBin oPow (eC (.int 10)) (eC (.int 18)))))
    (sExpr (eSetI (eBin oSub (eVar 2) (eBin oPow (eC (.int 10)) (eC (.int 18)))) (eVar 0) (eC (.int 0))))
    (sSeq (sSet 3 (eBin oMod (eFn oInt (dCons (eVar 2) dNil)) (eC (.int 2147483647))))
    (sSeq (sSet 3 (eBin oMod (eFn oInt (dCons (eBin oCat (eBin oCat (eBin oRep (eVar 3) (eVar 3)) (eBin oRep (eC (.int 69621)) (eVar 3))) (eBin oRep (eC (.int 977)) (eBin oIdx (eVar 0) (eC (.int 2))))) dNil)) (eC (.int 2147483629))))
    (sExpr (eSetI (eBin oMod (eFn oInt (dCons (eBin oCat (eBin oIdx (eVar 0) (eC (.int 1))) (eVar 3)) dNil)) (eC (.int 2147483629))) (eVar 0) (eC (.int 1)))))))))
    sPass) [some (.ref p), some (.int m), none, none, none] S = .next [some (.ref p), some (.int m), o2, o3, none] S1 ∧ Pot S1 p ∧ Fr1 S S1 p := by
    obtain ⟨a, b, c, cs, g, ha, hb, hb2, hc, hc2, hl⟩ := id hP
    by_cases hz : a = 0
    · by_cases hc3 : c < 3 + cs.length
      · obtain ⟨x, hx⟩ := pot_cell (a := a) (b := b) hc hc3
        have lt : decide (c < ((D.int a :: .int b :: .int c :: cs.map D.int).length : Int)) = true := decide_eq_true (by simp only [List.length_cons, List.length_map]; omega)
        have g1 : (S.set p (.lst (.int a :: .int b :: .int (c + 1) :: cs.map .int)))[p]? = some (.lst (.int a :: .int b :: .int (c + 1) :: cs.map .int)) := List.getElem?_set_self (lt_of_get g)
        by_cases hbig : 1000000000000000000 ≤ x
        · refine ⟨some (.int x), none, (S.set p (.lst (.int a :: .int b :: .int (c + 1) :: cs.map .int))).set p (.lst (.int (x - 1000000000000000000) :: .int b :: .int (c + 1) :: cs.map .int)), ?_, ⟨x - 1000000000000000000, b, c + 1, cs, ?_, ?_, hb, hb2, ?_, ?_, hl⟩, Fr1.trans .set .set⟩
          · subst hz
            simp only [sIf_ap, tAnd_ap, tVal_ap, eBin_ap, eVar_c0, eVar_c, eC_ap, R.bind, idx_ref g atI_c0, idx_ref g atI_c2, oEq_i, eFn_ap, dCons_ap, dNil_ap, len_ref g, oLt_i, lt, sSeq_ap, sSet_ap, idx_ref g hx, sExpr_ap, eAugI, augJ, augGet_c2 g, optR_some, augF, asI, chg_at g kSet_c2, List.set, pow18, oGe_i, eSetI_ap, oSub_i, chg_at g1 kSet_c0, hbig, decide_true, if_true, BEq.rfl]
          · rw [List.getElem?_set_self (by rw [List.length_set]; exact lt_of_get g)]
          · omega
          · omega
          · omega
        · have d1 : decide (1000000000000000000 ≤ x) = false := decide_eq_false hbig
          have y0 := Int.fmod_nonneg_of_pos x (show (0 : Int) < 2147483647 by decide)
          have y1 := Int.fmod_lt_of_pos x (show (0 : Int) < 2147483647 by decide)
          have m1 : mulOk (x.fmod 2147483647) (x.fmod 2147483647) = true := mulOk_small (sm (B := 2147483647) (by omega) (by decide)) (sm (B := 2147483647) (by omega) (by decide))
          have m2 : mulOk 69621 (x.fmod 2147483647) = true := mulOk_small (by decide) (sm (B := 2147483647) (by omega) (by decide))
          have m3 : mulOk 977 (c + 1) = true := mulOk_small (by decide) (sm (B := 100) (by omega) (by decide))
          have z0 := Int.fmod_nonneg_of_pos (b + (x.fmod 2147483647 * x.fmod 2147483647 + 69621 * x.fmod 2147483647 + 977 * (c + 1)).fmod 2147483629) (show (0 : Int) < 2147483629 by decide)
          have z1 := Int.fmod_lt_of_pos (b + (x.fmod 2147483647 * x.fmod 2147483647 + 69621 * x.fmod 2147483647 + 977 * (c + 1)).fmod 2147483629) (show (0 : Int) < 2147483629 by decide)
          refine ⟨some (.int x), some (.int ((x.fmod 2147483647 * x.fmod 2147483647 + 69621 * x.fmod 2147483647 + 977 * (c + 1)).fmod 2147483629)), (S.set p (.lst (.int a :: .int b :: .int (c + 1) :: cs.map .int))).set p (.lst (.int a :: .int ((b + (x.fmod 2147483647 * x.fmod 2147483647 + 69621 * x.fmod 2147483647 + 977 * (c + 1)).fmod 2147483629).fmod 2147483629) :: .int (c + 1) :: cs.map .int)), ?_, ⟨a, (b + (x.fmod 2147483647 * x.fmod 2147483647 + 69621 * x.fmod 2147483647 + 977 * (c + 1)).fmod 2147483629).fmod 2147483629, c + 1, cs, ?_, ha, z0, ?_, ?_, ?_, hl⟩, Fr1.trans .set .set⟩
          · subst hz
            simp only [sIf_ap, tAnd_ap, tVal_ap, eBin_ap, eVar_c0, eVar_c, eC_ap, R.bind, idx_ref g atI_c0, idx_ref g atI_c2, oEq_i, eFn_ap, dCons_ap, dNil_ap, len_ref g, oLt_i, lt, sSeq_ap, sSet_ap, idx_ref g hx, sExpr_ap, eAugI, augJ, augGet_c2 g, optR_some, augF, asI, chg_at g kSet_c2, List.set, pow18, oGe_i, eSetI_ap, oSub_i, d1, decide_true, if_true, BEq.rfl, oInt_i, modOk (show (0 : Int) < 2147483647 by decide), modOk (show (0 : Int) < 2147483629 by decide), oRep_i m1, oRep_i m2, oRep_i m3, oCat_i, idx_ref g1 atI_c1, idx_ref g1 atI_c2, chg_at g1 kSet_c1, Bool.false_eq_true, if_false]
          · rw [List.getElem?_set_self (by rw [List.length_set]; exact lt_of_get g)]
          · omega
          · omega
          · omega
      · refine ⟨none, none, S, ?_, hP, .refl⟩
        have lt : decide (c < ((D.int a :: .int b :: .int c :: cs.map D.int).length : Int)) = false := decide_eq_false (by simp only [List.length_cons, List.length_map]; omega)
        subst hz
        simp only [sIf_ap, tAnd_ap, tVal_ap, eBin_ap, eVar_c0, eC_ap, R.bind, idx_ref g atI_c0, idx_ref g atI_c2, oEq_i, eFn_ap, dCons_ap, dNil_ap, len_ref g, oLt_i, lt, if_true, BEq.rfl, Bool.false_eq_true, if_false, sPass_ap]
    · have hz' : (a == 0) = false := by simp [hz]
      refine ⟨none, none, S, ?_, hP, .refl⟩
      simp only [sIf_ap, tAnd_ap, tVal_ap, eBin_ap, eVar_c0, eC_ap, R.bind, idx_ref g atI_c0, oEq_i, hz', Bool.false_eq_true, if_false, sPass_ap]
  obtain ⟨o2, o3, S1, eA, P1, F1⟩ := hA
  obtain ⟨a, b, c, cs, g, ha, hb, hb2, hc, hc2, hl⟩ := id P1
  unfold runBody takeD
  simp only [List.map_cons, List.map_nil, List.length_cons, List.length_nil, List.replicate, List.cons_append, List.nil_append]
  rw [sSeq_ap, eA]
  by_cases hr : 0 < a
  · have g1 : (S1.set p (.lst (.int (a.fdiv m) :: .int b :: .int c :: cs.map .int)))[p]? = some (.lst (.int (a.fdiv m) :: .int b :: .int c :: cs.map .int)) := List.getElem?_set_self (lt_of_get g)
    refine ⟨a.fmod m, _, ?_, Int.fmod_nonneg_of_pos _ h0, Int.fmod_lt_of_pos _ h0, ⟨_, _, _, cs, g1, Int.fdiv_nonneg ha (by omega), hb, hb2, hc, hc2, hl⟩, F1.trans .set⟩
    simp only [sSeq_ap, sIf_ap, tVal_ap, eBin_ap, eVar_c0, eVar_c, eC_ap, R.bind, idx_ref g atI_c0, oGt_i, hr, decide_true, if_true, sSet_ap, eFn_ap, dCons_ap, dNil_ap, oInt_i, oMod_i hm0, List.set, sExpr_ap, eSetI_ap, oFdiv_i hdm, chg_at g kSet_c0, sRet_ap]
  · have m1 : mulOk b 48271 = true := mulOk_small (sm (B := 2147483648) (by omega) (by decide)) (by decide)
    have m2 : mulOk 40692 c = true := mulOk_small (by decide) (sm (B := 100) (by omega) (by decide))
    have y0 := Int.fmod_nonneg_of_pos (b * 48271 + 40692 * c + 11) (show (0 : Int) < 2147483647 by decide)
    have y1 := Int.fmod_lt_of_pos (b * 48271 + 40692 * c + 11) (show (0 : Int) < 2147483647 by decide)
    generalize hy : (b * 48271 + 40692 * c + 11).fmod 2147483647 = y at y0 y1
    have m3 : mulOk y y = true := mulOk_small (sm (B := 2147483648) (by omega) (by decide)) (sm (B := 2147483648) (by omega) (by decide))
    have z0 := Int.fmod_nonneg_of_pos (y * y + 7) (show (0 : Int) < 2147483629 by decide)
    have z1 := Int.fmod_lt_of_pos (y * y + 7) (show (0 : Int) < 2147483629 by decide)
    generalize hz : (y * y + 7).fmod 2147483629 = z at z0 z1
    have g1 : (S1.set p (.lst (.int a :: .int y :: .int c :: cs.map .int)))[p]? = some (.lst (.int a :: .int y :: .int c :: cs.map .int)) := List.getElem?_set_self (lt_of_get g)
    have g2 : ((S1.set p (.lst (.int a :: .int y :: .int c :: cs.map .int))).set p (.lst (.int a :: .int z :: .int c :: cs.map .int)))[p]? = some (.lst (.int a :: .int z :: .int c :: cs.map .int)) := List.getElem?_set_self (by rw [List.length_set]; exact lt_of_get g)
    have e8 : divOk 8 = true := by decide
    refine ⟨(z.fdiv 8).fmod m, _, ?_, Int.fmod_nonneg_of_pos _ h0, Int.fmod_lt_of_pos _ h0, ⟨_, _, _, cs, g2, ha, z0, by omega, hc, hc2, hl⟩, F1.trans (.trans .set .set)⟩
    simp only [sSeq_ap, sIf_ap, tVal_ap, eBin_ap, eVar_c0, eVar_c, eC_ap, R.bind, idx_ref g atI_c0, idx_ref g atI_c1, idx_ref g atI_c2, oGt_i, hr, decide_false, Bool.false_eq_true, if_false, sPass_ap, sSet_ap, eFn_ap, dCons_ap, dNil_ap, oInt_i, oRep_i m1, oRep_i m2, oRep_i m3, oCat_i, modOk (show (0 : Int) < 2147483647 by decide), modOk (show (0 : Int) < 2147483629 by decide), hy, hz, sExpr_ap, eSetI_ap, chg_at g kSet_c1, chg_at g1 kSet_c1, idx_ref g1 atI_c1, idx_ref g2 atI_c1, oFdiv_i e8, oMod_i hm0, sRet_ap]
end Py

set_option maxHeartbeats 4000000
/-! PyQ: what the laws' own helpers do: judging values, lowest terms, the same. -/
namespace Py
open PySem (Str sizeLine)
def isI : D → Bool | .int _ => true | _ => false
/-- neither of the store nor an exception -/
def Vl : D → Bool | .ref _ => false | .exc _ _ => false | _ => true
section
variable {anc : Anc} {S : Store} {Γ : Calls} {i : Nat}
def isIntD (anc : Anc) : DenS := (sRet (eAnd (eIsi anc [(.ty .int)] (eVar 0)) (eNot (eIsi anc [(.ty .bool)] (eVar 0)))))
theorem isInt_body {d : D} (h : Vl d = true) : runBody (isIntD anc) 1 [d] S = .ok (.bl (isI d)) S := by
  cases d <;> first | rfl | cases h
def isTup : D → Bool | .tup _ => true | _ => false
theorem isiT {f : Den} {e : Env} {d : D} (hf : f e S = .ok d S) (h : Vl d = true) : eIsi anc [(.ty .tuple)] f e S = .ok (.bl (isTup d)) S := by
  rw [eIsi_ap, hf]
  cases d <;> first | rfl | cases h
theorem all_lc {xs : List D} {f : D → Bool} {o : Option D} {e : Env} (hG : ∀ x ∈ xs, ∀ S', Γ i [x] S' = .ok (.bl (f x)) S') (hl : xs.length ≤ sizeLine) :
    eFn oAll (dCons (eLc [1] (dSeq (eVar 0)) (gNm 1) tYesD (eCall Γ i (dCons (eVar 1) dNil))) dNil) (some (.tup xs) :: o :: e) S = .ok (.bl (xs.all f)) S := by
  have h := eLc_pure (vs := [1]) (gi := dSeq (eVar 0)) (g := gNm 1) (f := eCall Γ i (dCons (eVar 1) dNil)) (e := some (.tup xs) :: o :: e) (S := S) (xs := xs) (fun x => .bl (f x)) rfl
    (fun x hx S' => ⟨_, rfl, by
      have := hG x hx S'
      simp only [wipeE, List.set, eCall_ap, dCons_ap, eVar_c, eVar_c0, dNil_ap, R.bind]
      exact this⟩) (fun _ _ => rfl) hl
  rw [eFn_ap, dCons_ap, h]
  exact oAll_map
/-! polynomials -/
def polyB : D → Bool
  | .tup xs => xs.all isI && (match xs with | .int a :: _ => a != 0 | _ => true)
  | _ => false
noncomputable def polyD (anc : Anc) (Γ : Calls) (i : Nat) : DenS :=
  (sSeq (sIf (tOr (tNot (tVal (eIsi anc [(.ty .tuple)] (eVar 0)))) (tNot (tVal (eFn oAll (dCons (eLc [1] (dSeq (eVar 0)) (gNm 1) tYesD (eCall Γ i (dCons (eVar 1) dNil))) dNil)))))
    (sRet (eC (.bl false)))
    sPass)
    (sRet (eOr (eBin oEq (eVar 0) (eTup dNil)) (eBin oNe (eBin oIdx (eVar 0) (eC (.int 0))) (eC (.int 0))))))
noncomputable def polyD' (anc : Anc) (Γ : Calls) (i : Nat) : DenS :=
  (sSeq (sIf (tOr (tNot (tVal (eIsi anc [(.ty .tuple)] (eVar 0)))) (tNot (tVal (eFn oAll (dCons (eLc [1] (dSeq (eVar 0)) (gNm 1) tYesD (eCall Γ i (dCons (eVar 1) dNil))) dNil)))))
    (sRet (eC (.bl false)))
    sPass)
    (sRet (eOr (eBin oEq (eFn oLen (dCons (eVar 0) dNil)) (eC (.int 0))) (eBin oNe (eBin oIdx (eVar 0) (eC (.int 0))) (eC (.int 0))))))
theorem ints_of : ∀ {xs : List D}, xs.all isI = true → ∃ l : List Int, xs = l.map .int
  | [], _ => ⟨[], rfl⟩
  | x :: xs, h => by
    simp only [List.all_cons, Bool.and_eq_true] at h
    obtain ⟨l, hl⟩ := ints_of h.2
    cases x with
    | int a => exact ⟨a :: l, by rw [hl]; rfl⟩
    | _ => cases h.1
/-- the judging head of is_polynomial, is_broken -/
theorem head2 {d : D} {f : D → Bool} {G : DenS} (hd : Vl d = true) (hG : ∀ xs, d = .tup xs → xs.length ≤ sizeLine ∧ ∀ x ∈ xs, ∀ S', Γ i [x] S' = .ok (.bl (f x)) S') :
    sSeq (sIf (tOr (tNot (tVal (eIsi anc [(.ty .tuple)] (eVar 0)))) (tNot (tVal (eFn oAll (dCons (eLc [1] (dSeq (eVar 0)) (gNm 1) tYesD (eCall Γ i (dCons (eVar 1) dNil))) dNil)))))
    (sRet (eC (.bl false))) sPass) G [some d, none] S = (match d with | .tup xs => if xs.all f then G [some d, none] S else .ret (.bl false) S | _ => .ret (.bl false) S) := by
  rw [sSeq_ap, sIf_ap, tOr_ap, tNot_ap, tVal_ap, isiT (anc := anc) (f := eVar 0) (d := d) rfl hd]
  by_cases ht : ∃ xs, d = .tup xs
  · obtain ⟨xs, rfl⟩ := ht
    obtain ⟨h1, h2⟩ := hG xs rfl
    have h := all_lc (Γ := Γ) (i := i) (f := f) (o := none) (e := []) (S := S) h2 h1
    simp only [isTup, R.bind, Bool.not_true, Bool.false_eq_true, if_false, tNot_ap, tVal_ap, h]
    cases q : xs.all f <;> simp
  · have : isTup d = false := by
      cases d <;> first | rfl | exact absurd ⟨_, rfl⟩ ht
    simp only [this, R.bind, Bool.not_false, if_true, sRet_ap, eC_ap]
    cases d <;> first | rfl | exact absurd ⟨_, rfl⟩ ht
theorem poly_body {d : D} (hd : Vl d = true) (hl : ∀ xs, d = .tup xs → xs.length ≤ sizeLine ∧ ∀ x ∈ xs, ∀ S', Γ i [x] S' = .ok (.bl (isI x)) S') :
    runBody (polyD anc Γ i) 2 [d] S = .ok (.bl (polyB d)) S := by
  unfold runBody polyD
  simp only [List.map_cons, List.map_nil, List.length_cons, List.length_nil, List.replicate, List.cons_append, List.nil_append]
  rw [head2 (f := isI) hd hl]
  cases d with
  | tup xs =>
    unfold polyB
    cases q : xs.all isI with
    | false => simp [q]
    | true =>
      obtain ⟨l, rfl⟩ := ints_of q
      have e1 : oEq (.tup (l.map D.int)) (.tup []) S = .ok (.bl (eqB (.tup (l.map D.int)) (.tup []))) S := oEq_fit (fit_tints l) rfl
      cases l with
      | nil =>
        have e0 : oEq (.tup []) (.tup []) S = .ok (.bl true) S := oEq_fit rfl rfl
        simp [e0]
      | cons a l =>
        simp only [List.map_cons] at *
        simp only [q, if_true, sRet_ap, eOr_ap, eBin_ap, eVar_c0, eTup_ap, dNil_ap, R.bind, e1, eqB, eqL, idx_tup, eC_ap, atI_c0, oNe_i, Bool.true_and]
        rfl
  | ref _ => cases hd
  | exc _ _ => cases hd
  | _ => rfl
theorem poly_body' {d : D} (hd : Vl d = true) (hl : ∀ xs, d = .tup xs → xs.length ≤ sizeLine ∧ ∀ x ∈ xs, ∀ S', Γ i [x] S' = .ok (.bl (isI x)) S') :
    runBody (polyD' anc Γ i) 2 [d] S = .ok (.bl (polyB d)) S := by
  unfold runBody polyD'
  simp only [List.map_cons, List.map_nil, List.length_cons, List.length_nil, List.replicate, List.cons_append, List.nil_append]
  rw [head2 (f := isI) hd hl]
  cases d with
  | tup xs =>
    unfold polyB
    cases q : xs.all isI with
    | false => simp [q]
    | true =>
      obtain ⟨l, rfl⟩ := ints_of q
      have e1 : oLen [.tup (l.map D.int)] S = .ok (.int (l.map D.int).length) S := rfl
      cases l with
      | nil =>
        have e0 : oLen [.tup []] S = .ok (.int 0) S := rfl
        simp [e0]
      | cons a l =>
        simp only [List.map_cons] at *
        have e2 : (((D.int a :: l.map D.int).length : Int) == 0) = false := by simp only [List.length_cons]; simp; omega
        simp only [q, if_true, sRet_ap, eOr_ap, eBin_ap, eFn_ap, dCons_ap, eVar_c0, dNil_ap, R.bind, e1, oEq_i, e2, idx_tup, eC_ap, atI_c0, oNe_i, Bool.true_and]
        rfl
  | ref _ => cases hd
  | exc _ _ => cases hd
  | _ => rfl
/-! numbers -/
def numB : D → Bool
  | .tup [.int a, .int b] => decide (0 < b) && (Nat.gcd a.natAbs b.natAbs == 1)
  | _ => false
noncomputable def numHead (anc : Anc) (Γ : Calls) (i : Nat) (G : DenS) : DenS :=
  (sSeq (sIf (tOr (tNot (tVal (eIsi anc [(.ty .tuple)] (eVar 0)))) (tOr (tVal (eBin oNe (eFn oLen (dCons (eVar 0) dNil)) (eC (.int 2)))) (tNot (tVal (eFn oAll (dCons (eLc [1] (dSeq (eVar 0)) (gNm 1) tYesD (eCall Γ i (dCons (eVar 1) dNil))) dNil))))))
    (sRet (eC (.bl false)))
    sPass) G)
def numT : DenS := (sRet (eAnd (eBin oGt (eBin oIdx (eVar 0) (eC (.int 1))) (eC (.int 0))) (eBin oEq (eFn oGcd (dCons (eBin oIdx (eVar 0) (eC (.int 0))) (dCons (eBin oIdx (eVar 0) (eC (.int 1))) dNil))) (eC (.int 1)))))
def numT' (Γ : Calls) (j : Nat) : DenS := (sRet (eAnd (eBin oGt (eBin oIdx (eVar 0) (eC (.int 1))) (eC (.int 0))) (eBin oEq (eCall Γ j (dCons (eBin oIdx (eVar 0) (eC (.int 0))) (dCons (eBin oIdx (eVar 0) (eC (.int 1))) dNil))) (eVar 0))))
def two : D → Option (Int × Int)
  | .tup [.int a, .int b] => some (a, b)
  | _ => none
theorem numHead_ok {d : D} {G : DenS} (hd : Vl d = true) (hG : ∀ xs, d = .tup xs → xs.length ≤ sizeLine ∧ ∀ x ∈ xs, ∀ S', Γ i [x] S' = .ok (.bl (isI x)) S') :
    numHead anc Γ i G [some d, none] S = (match two d with | some _ => G [some d, none] S | none => .ret (.bl false) S) := by
  unfold numHead
  rw [sSeq_ap, sIf_ap, tOr_ap, tNot_ap, tVal_ap, isiT (anc := anc) (f := eVar 0) (d := d) rfl hd]
  by_cases ht : ∃ xs, d = .tup xs
  · obtain ⟨xs, rfl⟩ := ht
    obtain ⟨h1, h2⟩ := hG xs rfl
    have h := all_lc (Γ := Γ) (i := i) (f := isI) (o := none) (e := []) (S := S) h2 h1
    have e1 : oLen [.tup xs] S = .ok (.int xs.length) S := rfl
    simp only [isTup, R.bind, Bool.not_true, Bool.false_eq_true, if_false, tNot_ap, tVal_ap, tOr_ap, h, eBin_ap, eFn_ap, dCons_ap, eVar_c0, dNil_ap, e1, eC_ap, oNe_i]
    rcases xs with _ | ⟨x, _ | ⟨y, _ | ⟨z, zs⟩⟩⟩
    · rfl
    · cases x <;> rfl
    · have e2 : (!((([x, y] : List D).length : Int) == 2)) = false := rfl
      have : two (.tup [x, y]) = if ([x, y] : List D).all isI then two (.tup [x, y]) else none := by
        cases x <;> cases y <;> rfl
      rw [this]
      simp only [e2, Bool.false_eq_true, if_false]
      cases q : ([x, y] : List D).all isI with
      | false => simp
      | true =>
        obtain ⟨l, hl⟩ := ints_of q
        rcases l with _ | ⟨a, _ | ⟨b, _ | ⟨c, l⟩⟩⟩ <;> simp at hl
        obtain ⟨rfl, rfl⟩ := hl
        simp [two]
    · have e2 : (!((((x :: y :: z :: zs) : List D).length : Int) == 2)) = true := by simp; omega
      have e3 : two (.tup (x :: y :: z :: zs)) = none := by cases x <;> cases y <;> rfl
      simp only [e2, if_true, e3, sRet_ap, eC_ap]
  · have : isTup d = false := by
      cases d <;> first | rfl | exact absurd ⟨_, rfl⟩ ht
    simp only [this, R.bind, Bool.not_false, if_true, sRet_ap, eC_ap]
    cases d <;> first | rfl | exact absurd ⟨_, rfl⟩ ht
theorem two_of {d : D} {a b : Int} (h : two d = some (a, b)) : d = .tup [.int a, .int b] := by
  unfold two at h
  split at h
  · cases h; rfl
  · cases h
theorem num_of {d : D} : numB d = match two d with | some (a, b) => decide (0 < b) && (Nat.gcd a.natAbs b.natAbs == 1) | none => false := by
  unfold numB two
  split <;> rfl
theorem num_body {d : D} (hd : Vl d = true) (hG : ∀ xs, d = .tup xs → xs.length ≤ sizeLine ∧ ∀ x ∈ xs, ∀ S', Γ i [x] S' = .ok (.bl (isI x)) S') :
    runBody (numHead anc Γ i numT) 2 [d] S = .ok (.bl (numB d)) S := by
  unfold runBody
  simp only [List.map_cons, List.map_nil, List.length_cons, List.length_nil, List.replicate, List.cons_append, List.nil_append]
  rw [numHead_ok hd hG, num_of]
  cases q : two d with
  | none => rfl
  | some ab =>
    obtain ⟨a, b⟩ := ab
    cases two_of q
    unfold numT
    by_cases hb : 0 < b
    · have : (((Nat.gcd a.natAbs b.natAbs : Nat) : Int) == 1) = (Nat.gcd a.natAbs b.natAbs == 1) := by
        rw [Bool.eq_iff_iff, beq_iff_eq, beq_iff_eq]; omega
      simp [hb, this]
    · simp [hb]
/-- the lowest terms -/
def cofP (a b : Int) : Int := if b < 0 then -((Nat.gcd a.natAbs b.natAbs : Nat) : Int) else ((Nat.gcd a.natAbs b.natAbs : Nat) : Int)
theorem num_body' {d : D} {j : Nat} (hd : Vl d = true) (hG : ∀ xs, d = .tup xs → xs.length ≤ sizeLine ∧ ∀ x ∈ xs, ∀ S', Γ i [x] S' = .ok (.bl (isI x)) S')
    (hL : ∀ a b : Int, two d = some (a, b) → 0 < b → ∀ S', Γ j [.int a, .int b] S' = .ok (.tup [.int (a.fdiv (Nat.gcd a.natAbs b.natAbs : Nat)), .int (b.fdiv (Nat.gcd a.natAbs b.natAbs : Nat))]) S') :
    runBody (numHead anc Γ i (numT' Γ j)) 2 [d] S = .ok (.bl (numB d)) S := by
  unfold runBody
  simp only [List.map_cons, List.map_nil, List.length_cons, List.length_nil, List.replicate, List.cons_append, List.nil_append]
  rw [numHead_ok hd hG, num_of]
  cases q : two d with
  | none => rfl
  | some ab =>
    obtain ⟨a, b⟩ := ab
    have hL1 := hL a b q
    cases two_of q
    unfold numT'
    by_cases hb : 0 < b
    · have e1 := oEq_fit (S := S) (fit_tints [a.fdiv (Nat.gcd a.natAbs b.natAbs : Nat), b.fdiv (Nat.gcd a.natAbs b.natAbs : Nat)]) (fit_tints [a, b])
      have hp : 0 < Nat.gcd a.natAbs b.natAbs := Nat.gcd_pos_of_pos_right _ (Int.natAbs_pos.mpr (by omega))
      have e2 : eqB (.tup ([a.fdiv (Nat.gcd a.natAbs b.natAbs : Nat), b.fdiv (Nat.gcd a.natAbs b.natAbs : Nat)].map D.int)) (.tup ([a, b].map D.int)) = (Nat.gcd a.natAbs b.natAbs == 1) := by
        simp only [List.map_cons, List.map_nil, eqB, eqL, Bool.and_true]
        rw [Bool.eq_iff_iff, Bool.and_eq_true, beq_iff_eq, beq_iff_eq, beq_iff_eq]
        generalize Nat.gcd a.natAbs b.natAbs = g at hp
        constructor
        · rintro ⟨_, h⟩
          have hg : 0 < (g : Int) := by omega
          rw [Int.fdiv_eq_ediv_of_nonneg _ (by omega)] at h
          have h2 := Int.ediv_mul_le b (show (g : Int) ≠ 0 by omega)
          rw [h] at h2
          have : (g : Int) ≤ 1 := by
            apply Int.le_of_not_gt
            intro hgt
            have : b * 2 ≤ b * g := Int.mul_le_mul_of_nonneg_left (by omega) (by omega)
            omega
          omega
        · intro h
          subst h
          exact ⟨by simp, by simp⟩
      rw [e2] at e1
      simp only [List.map_cons, List.map_nil] at e1
      simp [hb, hL1 hb, e1]
    · simp [hb]
end
end Py

set_option maxHeartbeats 4000000
/-! PyR: broken polynomials, lowest terms by Euclid, the same. -/
namespace Py
open PySem (Str sizeLine)
section
variable {anc : Anc} {S : Store} {Γ : Calls} {i : Nat}
def brkT : DenS := (sRet (eOr (eBin oEq (eVar 0) (eTup dNil)) (eBin oNe (eBin oIdx (eVar 0) (eC (.int 0))) (eC (.tup [(.int 0), (.int 1)])))))
def brkT' : DenS := (sRet (eOr (eBin oEq (eFn oLen (dCons (eVar 0) dNil)) (eC (.int 0))) (eBin oNe (eBin oIdx (eBin oIdx (eVar 0) (eC (.int 0))) (eC (.int 0))) (eC (.int 0)))))
noncomputable def brkD (anc : Anc) (Γ : Calls) (i : Nat) (G : DenS) : DenS :=
  (sSeq (sIf (tOr (tNot (tVal (eIsi anc [(.ty .tuple)] (eVar 0)))) (tNot (tVal (eFn oAll (dCons (eLc [1] (dSeq (eVar 0)) (gNm 1) tYesD (eCall Γ i (dCons (eVar 1) dNil))) dNil)))))
    (sRet (eC (.bl false)))
    sPass) G)
def brokenB : D → Bool
  | .tup xs => xs.all numB && (match xs with | .tup [.int a, .int _] :: _ => a != 0 | _ => true)
  | _ => false
theorem num_shape {d : D} (h : numB d = true) : ∃ a b : Int, d = .tup [.int a, .int b] ∧ 0 < b ∧ Nat.gcd a.natAbs b.natAbs = 1 := by
  unfold numB at h
  split at h
  · rename_i a b
    simp only [Bool.and_eq_true, decide_eq_true_eq, beq_iff_eq] at h
    exact ⟨a, b, rfl, h.1, h.2⟩
  · cases h
def pairD (q : Int × Int) : D := .tup [.int q.1, .int q.2]
theorem nums_of : ∀ {xs : List D}, xs.all numB = true → ∃ l : List (Int × Int), xs = l.map pairD
  | [], _ => ⟨[], rfl⟩
  | x :: xs, h => by
    simp only [List.all_cons, Bool.and_eq_true] at h
    obtain ⟨l, hl⟩ := nums_of h.2
    obtain ⟨a, b, rfl, _⟩ := num_shape h.1
    exact ⟨(a, b) :: l, by rw [hl]; rfl⟩
theorem pure_pairs (l : List (Int × Int)) : pureL (l.map pairD) = true := by
  induction l with
  | nil => rfl
  | cons i l ih => simp only [List.map_cons, pairD, pureL, pureB, Bool.and_true, ih]
theorem depth_pairs (l : List (Int × Int)) : depthL (l.map pairD) ≤ 1 := by
  induction l with
  | nil => exact Nat.zero_le _
  | cons i l ih => simp only [List.map_cons, depthL]; exact Nat.max_le.mpr ⟨Nat.le_refl _, ih⟩
theorem fit_pairs (l : List (Int × Int)) : fit (.tup (l.map pairD)) = true := by
  unfold fit pureB depth
  rw [pure_pairs, Bool.true_and]
  have := depth_pairs l
  exact decide_eq_true (by omega)
theorem brk_body {d : D} (hd : Vl d = true) (hl : ∀ xs, d = .tup xs → xs.length ≤ sizeLine ∧ ∀ x ∈ xs, ∀ S', Γ i [x] S' = .ok (.bl (numB x)) S') :
    runBody (brkD anc Γ i brkT) 2 [d] S = .ok (.bl (brokenB d)) S := by
  unfold runBody brkD
  simp only [List.map_cons, List.map_nil, List.length_cons, List.length_nil, List.replicate, List.cons_append, List.nil_append]
  rw [head2 (f := numB) hd hl]
  cases d with
  | tup xs =>
    unfold brokenB
    cases q : xs.all numB with
    | false => simp only [q, Bool.false_eq_true, if_false, Bool.false_and]
    | true =>
      obtain ⟨l, rfl⟩ := nums_of q
      have e1 : oEq (.tup (l.map pairD)) (.tup []) S = .ok (.bl (eqB (.tup (l.map pairD)) (.tup []))) S := oEq_fit (fit_pairs l) rfl
      cases l with
      | nil =>
        have e0 : oEq (.tup []) (.tup []) S = .ok (.bl true) S := oEq_fit rfl rfl
        simp [e0, brkT]
      | cons a l =>
        have e2 : oNe (pairD a) (.tup [.int 0, .int 1]) S = .ok (.bl (!eqB (pairD a) (.tup [.int 0, .int 1]))) S := oNe_fit (fit_tints [a.1, a.2]) (fit_tints [0, 1])
        have e3 : (!eqB (pairD a) (.tup [.int 0, .int 1])) = (a.1 != 0) := by
          simp only [List.map_cons, List.all_cons, Bool.and_eq_true] at q
          obtain ⟨x, y, h1, h2, h3⟩ := num_shape q.1
          unfold pairD at h1 ⊢
          injection h1 with h1
          injection h1 with h4 h5
          injection h4 with h4
          injection h5 with h5 _
          injection h5 with h5
          simp only [eqB, eqL, Bool.and_true]
          by_cases hz : a.1 = 0
          · have : a.2 = 1 := by
              rw [hz] at h4
              subst h4
              simp at h3
              omega
            rw [hz, this]; rfl
          · have : (a.1 == 0) = false := by simp [hz]
            simp [this, hz]
        simp only [List.map_cons] at *
        simp only [q, if_true, brkT, sRet_ap, eOr_ap, eBin_ap, eVar_c0, eTup_ap, dNil_ap, R.bind, e1, eqB, eqL, idx_tup, eC_ap, atI_c0, Bool.true_and, e2, e3]
        rfl
  | ref _ => cases hd
  | exc _ _ => cases hd
  | _ => rfl
theorem brk_body' {d : D} (hd : Vl d = true) (hl : ∀ xs, d = .tup xs → xs.length ≤ sizeLine ∧ ∀ x ∈ xs, ∀ S', Γ i [x] S' = .ok (.bl (numB x)) S') :
    runBody (brkD anc Γ i brkT') 2 [d] S = .ok (.bl (brokenB d)) S := by
  unfold runBody brkD
  simp only [List.map_cons, List.map_nil, List.length_cons, List.length_nil, List.replicate, List.cons_append, List.nil_append]
  rw [head2 (f := numB) hd hl]
  cases d with
  | tup xs =>
    unfold brokenB
    cases q : xs.all numB with
    | false => simp only [q, Bool.false_eq_true, if_false, Bool.false_and]
    | true =>
      obtain ⟨l, rfl⟩ := nums_of q
      have e1 : oLen [.tup (l.map pairD)] S = .ok (.int (l.map pairD).length) S := rfl
      cases l with
      | nil =>
        have e0 : oLen [.tup []] S = .ok (.int 0) S := rfl
        simp [e0, brkT']
      | cons a l =>
        simp only [List.map_cons] at *
        have e2 : (((pairD a :: l.map pairD).length : Int) == 0) = false := by simp only [List.length_cons]; simp; omega
        have e3 : oIdx (pairD a) (.int 0) S = .ok (.int a.1) S := rfl
        simp only [q, if_true, brkT', sRet_ap, eOr_ap, eBin_ap, eFn_ap, dCons_ap, eVar_c0, dNil_ap, R.bind, e1, oEq_i, e2, idx_tup, eC_ap, atI_c0, oNe_i, Bool.true_and, e3]
        rfl
  | ref _ => cases hd
  | exc _ _ => cases hd
  | _ => rfl
/-! lowest terms -/
def eucB : DenS := (sSeq (sIf (tVal (eBin oEq (eVar 3) (eC (.int 0)))) sBrk sPass)
    (sPar 2 3 (eVar 3) (eBin oMod (eFn oInt (dCons (eVar 2) dNil)) (eVar 3))))
def lowD : DenS :=
  (sSeq (sPar 2 3 (eFn oAbs (dCons (eVar 0) dNil)) (eFn oAbs (dCons (eVar 1) dNil)))
    (sSeq (sFor (gNm 4) (dRng1 (eC (.int 100000))) eucB)
    (sSeq (sSet 5 (eIf (tVal (eBin oGt (eVar 1) (eC (.int 0)))) (eC (.int 1)) (eUn oNeg (eC (.int 1)))))
    (sRet (eTup (dCons (eBin oFdiv (eBin oRep (eVar 5) (eVar 0)) (eVar 2)) (dCons (eBin oFdiv (eBin oRep (eVar 5) (eVar 1)) (eVar 2)) dNil)))))))
theorem euclid : ∀ (n : Nat) (ys : List D) (x y : Nat) (a b o4 o5 : Option D), y ≤ x → x * y < 2 ^ n → n < ys.length →
    ∃ o, forL (gNm 4) eucB ys [a, b, some (.int x), some (.int y), o4, o5] S = .next [a, b, some (.int (Nat.gcd x y : Nat)), some (.int 0), o, o5] S := by
  intro n
  induction n with
  | zero =>
    intro ys x y a b o4 o5 h1 h2 h3
    have hy : y = 0 := by
      rcases Nat.eq_zero_or_pos y with h | h
      · exact h
      · have : 0 < x * y := Nat.mul_pos (by omega) h
        omega
    subst hy
    cases ys with
    | nil => simp at h3
    | cons z zs => exact ⟨some z, by unfold forL; simp [eucB]⟩
  | succ n ih =>
    intro ys x y a b o4 o5 h1 h2 h3
    cases ys with
    | nil => simp at h3
    | cons z zs =>
      rcases Nat.eq_zero_or_pos y with h | h
      · subst h
        exact ⟨some z, by unfold forL; simp [eucB]⟩
      · have hm : x % y < y := Nat.mod_lt _ h
        have h4 : x % y + y ≤ x := by
          have := Nat.div_add_mod x y
          have h6 : 0 < x / y := Nat.div_pos h1 h
          have h7 : y * 1 ≤ y * (x / y) := Nat.mul_le_mul_left y h6
          omega
        have h5 : y * (x % y) * 2 ≤ x * y := by
          have := Nat.mul_le_mul_left y (show x % y * 2 ≤ x by omega)
          rw [Nat.mul_comm x y, Nat.mul_assoc]
          exact this
        obtain ⟨o, ho⟩ := ih zs y (x % y) a b (some z) o5 (by omega) (by rw [Nat.pow_succ] at h2; omega) (by simp only [List.length_cons] at h3; omega)
        refine ⟨o, ?_⟩
        have hb : ((y : Int) == 0) = false := by simp; omega
        have hf : ((x : Int).fmod (y : Int)) = ((x % y : Nat) : Int) := by rw [Int.fmod_eq_emod_of_nonneg _ (by omega)]; norm_cast
        unfold forL
        simp [eucB, hb, oMod_i (show (y : Int) ≠ 0 by omega), hf]
        have hg : Nat.gcd x y = Nat.gcd y (x % y) := by rw [Nat.gcd_comm x y, Nat.gcd_rec, Nat.gcd_comm]
        have ho' := ho
        unfold eucB at ho'
        simp at ho' ⊢
        rw [hg]
        exact ho'
theorem low_body {a b : Int} (hb : b ≠ 0) (h1 : a.natAbs < 2 ^ 1000) (h2 : b.natAbs < 2 ^ 1000) :
    runBody lowD 6 [.int a, .int b] S = .ok (.tup [.int (a.fdiv (cofP a b)), .int (b.fdiv (cofP a b))]) S := by
  have hp : 0 < Nat.gcd a.natAbs b.natAbs := Nat.gcd_pos_of_pos_right _ (Int.natAbs_pos.mpr hb)
  have hle : Nat.gcd a.natAbs b.natAbs ≤ b.natAbs := Nat.gcd_le_right _ (Int.natAbs_pos.mpr hb)
  have hR : inR 100000 = true := by decide
  have hl : (intsD 0 (100000 : Int).toNat).length = 100000 := by unfold intsD; rw [List.length_map, List.length_range]; rfl
  have loop : ∃ o, sFor (gNm 4) (dRng1 (eC (.int 100000))) eucB [some (.int a), some (.int b), some (.int a.natAbs), some (.int b.natAbs), none, none] S =
      .next [some (.int a), some (.int b), some (.int (Nat.gcd a.natAbs b.natAbs : Nat)), some (.int 0), o, none] S := by
    rw [sFor_L (xs := intsD 0 (100000 : Int).toNat) (by unfold dRng1; simp only [eC_ap, R.bind, hR, if_true]; rfl)]
    rcases Nat.le_total b.natAbs a.natAbs with h | h
    · exact euclid 2000 _ _ _ _ _ _ _ h (by
        calc a.natAbs * b.natAbs < 2 ^ 1000 * 2 ^ 1000 := Nat.mul_lt_mul'' h1 h2
          _ = 2 ^ 2000 := by rw [← Nat.pow_add]) (by rw [hl]; omega)
    · cases q : intsD 0 (100000 : Int).toNat with
      | nil => rw [q] at hl; simp at hl
      | cons z zs =>
        rcases Nat.eq_zero_or_pos b.natAbs with h0 | h0
        · exact absurd (Int.natAbs_eq_zero.mp h0) hb
        rcases Nat.lt_or_ge a.natAbs b.natAbs with hlt | hge
        · obtain ⟨o, ho⟩ := euclid (S := S) 2000 zs b.natAbs a.natAbs (some (.int a)) (some (.int b)) (some z) none h (by
            calc b.natAbs * a.natAbs < 2 ^ 1000 * 2 ^ 1000 := Nat.mul_lt_mul'' h2 h1
              _ = 2 ^ 2000 := by rw [← Nat.pow_add]) (by rw [q] at hl; simp only [List.length_cons] at hl; omega)
          refine ⟨o, ?_⟩
          have hb0 : ((b.natAbs : Int) == 0) = false := by simp; omega
          have hf : ((a.natAbs : Int).fmod (b.natAbs : Int)) = (a.natAbs : Int) := by
            rw [Int.fmod_eq_emod_of_nonneg _ (by omega)]
            exact Int.emod_eq_of_lt (by omega) (by omega)
          have st : eucB [some (.int a), some (.int b), some (.int a.natAbs), some (.int b.natAbs), some z, none] S = .next [some (.int a), some (.int b), some (.int b.natAbs), some (.int a.natAbs), some z, none] S := by
            unfold eucB
            simp only [sSeq_ap, sIf_ap, tVal_ap, eBin_ap, eVar_c, eVar_c0, eC_ap, R.bind, oEq_i, hb0, Bool.false_eq_true, if_false, sPass_ap, sPar_ap, eFn_ap, dCons_ap, dNil_ap, oInt_i, oMod_i (show (b.natAbs : Int) ≠ 0 by omega), hf, List.set]
          unfold forL
          simp only [gNm_ap, List.set]
          rw [st]
          dsimp only
          rw [Nat.gcd_comm]
          exact ho
        · obtain ⟨o, ho⟩ := euclid (S := S) 2000 (z :: zs) a.natAbs b.natAbs (some (.int a)) (some (.int b)) none none hge (by
            calc a.natAbs * b.natAbs < 2 ^ 1000 * 2 ^ 1000 := Nat.mul_lt_mul'' h1 h2
              _ = 2 ^ 2000 := by rw [← Nat.pow_add]) (by rw [q] at hl; omega)
          exact ⟨o, ho⟩
  obtain ⟨o, loop⟩ := loop
  unfold runBody lowD
  simp only [List.map_cons, List.map_nil, List.length_cons, List.length_nil, List.replicate, List.cons_append, List.nil_append]
  have hd : divOk ((Nat.gcd a.natAbs b.natAbs : Nat) : Int) = true := divOk_small (by omega) (by
    rw [Int.natAbs_natCast]
    exact Nat.lt_of_le_of_lt hle h2)
  have d0 : ∀ z : Int, divOk z = true → ∀ x : Int, oFdiv (.int x) (.int z) S = .ok (.int (x.fdiv z)) S := fun z h x => oFdiv_i h
  by_cases hs : 0 < b
  · have m1 : mulOk 1 a = true := mulOk_small (by decide) h1
    have m2 : mulOk 1 b = true := mulOk_small (by decide) h2
    have c : cofP a b = ((Nat.gcd a.natAbs b.natAbs : Nat) : Int) := if_neg (by omega)
    simp only [sSeq_ap, sPar_ap, eFn_ap, dCons_ap, dNil_ap, eVar_c0, eVar_c, R.bind, oAbs_i, List.set, loop, sSet_ap, eIf_ap, tVal_ap, eBin_ap, eC_ap, oGt_i, hs, decide_true, if_true, sRet_ap, eTup_ap, oRep_i m1, oRep_i m2, d0 _ hd, Int.one_mul, c]
  · have m1 : mulOk (-1) a = true := mulOk_small (by decide) h1
    have m2 : mulOk (-1) b = true := mulOk_small (by decide) h2
    have c : cofP a b = -((Nat.gcd a.natAbs b.natAbs : Nat) : Int) := if_pos (by omega)
    have f : ∀ x : Int, (-1 * x).fdiv ((Nat.gcd a.natAbs b.natAbs : Nat) : Int) = x.fdiv (-((Nat.gcd a.natAbs b.natAbs : Nat) : Int)) := fun x => by
      rw [← Int.neg_fdiv_neg, Int.neg_mul, Int.one_mul, Int.neg_neg]
    simp only [sSeq_ap, sPar_ap, eFn_ap, dCons_ap, dNil_ap, eVar_c0, eVar_c, R.bind, oAbs_i, List.set, loop, sSet_ap, eIf_ap, tVal_ap, eBin_ap, eC_ap, oGt_i, hs, decide_false, Bool.false_eq_true, if_false, eUn_ap, oNeg_i, sRet_ap, eTup_ap, oRep_i m1, oRep_i m2, d0 _ hd, f, c]
/-! the same -/
def sameT (anc : Anc) (F : Den) : DenS :=
  (sSeq (sIf (tVal (eUn oIsN (eVar 1)))
    (sRet (eUn oIsN (eVar 0)))
    sPass)
    (sSeq (sIf (tVal (eIsi anc [(.ty .bool), (.ty .str)] (eVar 1)))
    (sRet (eAnd (eBin oEq (eIsi anc [(.ty .bool)] (eVar 0)) (eIsi anc [(.ty .bool)] (eVar 1))) (eAnd (eIsi anc [(.ty .bool), (.ty .str)] (eVar 0)) (eBin oEq (eVar 0) (eVar 1)))))
    sPass)
    (sSeq (sIf (tVal (eIsi anc [(.ty .int)] (eVar 1)))
    (sRet (eAnd (eIsi anc [(.ty .int)] (eVar 0)) (eAnd (eNot (eIsi anc [(.ty .bool)] (eVar 0))) (eBin oEq (eVar 0) (eVar 1)))))
    sPass)
    (sSeq (sIf (tOr (tVal (eBin oNe (eIsi anc [(.ty .list)] (eVar 1)) (eIsi anc [(.ty .list)] (eVar 0)))) (tVal (eBin oNe (eIsi anc [(.ty .tuple)] (eVar 1)) (eIsi anc [(.ty .tuple)] (eVar 0)))))
    (sRet (eC (.bl false)))
    sPass)
    (sRet (eAnd (eBin oEq (eFn oLen (dCons (eVar 0) dNil)) (eFn oLen (dCons (eVar 1) dNil))) F))))))
noncomputable def sameD (anc : Anc) (Γ : Calls) (i : Nat) : DenS := sameT anc (eFn oAll (dCons (eLc [2] (dRng1 (eFn oLen (dCons (eVar 1) dNil))) (gNm 2) tYesD (eCall Γ i (dCons (eBin oIdx (eVar 0) (eVar 2)) (dCons (eBin oIdx (eVar 1) (eVar 2)) dNil)))) dNil))
@[simp] theorem isK_none_bool : isK anc (.ty .none) (.ty .bool) = false := rfl
@[simp] theorem isK_none_str : isK anc (.ty .none) (.ty .str) = false := rfl
@[simp] theorem isK_none_int : isK anc (.ty .none) (.ty .int) = false := rfl
@[simp] theorem isK_none_list : isK anc (.ty .none) (.ty .list) = false := rfl
@[simp] theorem isK_none_tuple : isK anc (.ty .none) (.ty .tuple) = false := rfl
@[simp] theorem isK_none_dict : isK anc (.ty .none) (.ty .dict) = false := rfl
@[simp] theorem isK_bool_bool : isK anc (.ty .bool) (.ty .bool) = true := rfl
@[simp] theorem isK_bool_str : isK anc (.ty .bool) (.ty .str) = false := rfl
@[simp] theorem isK_bool_int : isK anc (.ty .bool) (.ty .int) = true := rfl
@[simp] theorem isK_bool_list : isK anc (.ty .bool) (.ty .list) = false := rfl
@[simp] theorem isK_bool_tuple : isK anc (.ty .bool) (.ty .tuple) = false := rfl
@[simp] theorem isK_bool_dict : isK anc (.ty .bool) (.ty .dict) = false := rfl
@[simp] theorem isK_int_bool : isK anc (.ty .int) (.ty .bool) = false := rfl
@[simp] theorem isK_int_str : isK anc (.ty .int) (.ty .str) = false := rfl
@[simp] theorem isK_int_int : isK anc (.ty .int) (.ty .int) = true := rfl
@[simp] theorem isK_int_list : isK anc (.ty .int) (.ty .list) = false := rfl
@[simp] theorem isK_int_tuple : isK anc (.ty .int) (.ty .tuple) = false := rfl
@[simp] theorem isK_int_dict : isK anc (.ty .int) (.ty .dict) = false := rfl
@[simp] theorem isK_str_bool : isK anc (.ty .str) (.ty .bool) = false := rfl
@[simp] theorem isK_str_str : isK anc (.ty .str) (.ty .str) = true := rfl
@[simp] theorem isK_str_int : isK anc (.ty .str) (.ty .int) = false := rfl
@[simp] theorem isK_str_list : isK anc (.ty .str) (.ty .list) = false := rfl
@[simp] theorem isK_str_tuple : isK anc (.ty .str) (.ty .tuple) = false := rfl
@[simp] theorem isK_str_dict : isK anc (.ty .str) (.ty .dict) = false := rfl
@[simp] theorem isK_tuple_bool : isK anc (.ty .tuple) (.ty .bool) = false := rfl
@[simp] theorem isK_tuple_str : isK anc (.ty .tuple) (.ty .str) = false := rfl
@[simp] theorem isK_tuple_int : isK anc (.ty .tuple) (.ty .int) = false := rfl
@[simp] theorem isK_tuple_list : isK anc (.ty .tuple) (.ty .list) = false := rfl
@[simp] theorem isK_tuple_tuple : isK anc (.ty .tuple) (.ty .tuple) = true := rfl
@[simp] theorem isK_tuple_dict : isK anc (.ty .tuple) (.ty .dict) = false := rfl
@[simp] theorem isK_list_bool : isK anc (.ty .list) (.ty .bool) = false := rfl
@[simp] theorem isK_list_str : isK anc (.ty .list) (.ty .str) = false := rfl
@[simp] theorem isK_list_int : isK anc (.ty .list) (.ty .int) = false := rfl
@[simp] theorem isK_list_list : isK anc (.ty .list) (.ty .list) = true := rfl
@[simp] theorem isK_list_tuple : isK anc (.ty .list) (.ty .tuple) = false := rfl
@[simp] theorem isK_list_dict : isK anc (.ty .list) (.ty .dict) = false := rfl
@[simp] theorem isK_dict_bool : isK anc (.ty .dict) (.ty .bool) = false := rfl
@[simp] theorem isK_dict_str : isK anc (.ty .dict) (.ty .str) = false := rfl
@[simp] theorem isK_dict_int : isK anc (.ty .dict) (.ty .int) = false := rfl
@[simp] theorem isK_dict_list : isK anc (.ty .dict) (.ty .list) = false := rfl
@[simp] theorem isK_dict_tuple : isK anc (.ty .dict) (.ty .tuple) = false := rfl
@[simp] theorem isK_dict_dict : isK anc (.ty .dict) (.ty .dict) = true := rfl
theorem isi_ty {f : Den} {e : Env} {d : D} {k : Kd} {cs : List Cl} (hf : f e S = .ok d S) (hk : kdOf anc d S = some k) : eIsi anc cs f e S = .ok (.bl (cs.any (isK anc k))) S := by
  rw [eIsi_ap, hf]
  simp only [R.bind, hk, optR_some]
@[simp] theorem kd_non : kdOf anc .non S = some (.ty .none) := rfl
@[simp] theorem kd_bl {b : Bool} : kdOf anc (.bl b) S = some (.ty .bool) := rfl
@[simp] theorem kd_int {b : Int} : kdOf anc (.int b) S = some (.ty .int) := rfl
@[simp] theorem kd_str {b : Str} : kdOf anc (.str b) S = some (.ty .str) := rfl
@[simp] theorem kd_tup {b : List D} : kdOf anc (.tup b) S = some (.ty .tuple) := rfl
@[simp] theorem kd_lst {b : List D} : kdOf anc (.lst b) S = some (.ty .list) := rfl
theorem same_bl {b : Bool} : runBody (sameD anc Γ i) 3 [.bl b, .bl b] S = .ok (.bl true) S := by
  unfold runBody sameD sameT
  simp only [List.map_cons, List.map_nil, List.length_cons, List.length_nil, List.replicate, List.cons_append, List.nil_append]
  have e : oEq (.bl b) (.bl b) S = .ok (.bl true) S := by rw [oEq_b]; cases b <;> rfl
  simp [isNon, e]
theorem same_int {b : Int} : runBody (sameD anc Γ i) 3 [.int b, .int b] S = .ok (.bl true) S := by
  unfold runBody sameD sameT
  simp only [List.map_cons, List.map_nil, List.length_cons, List.length_nil, List.replicate, List.cons_append, List.nil_append]
  simp [isNon]
theorem same_non : runBody (sameD anc Γ i) 3 [.non, .non] S = .ok (.bl true) S := by
  unfold runBody sameD sameT
  simp only [List.map_cons, List.map_nil, List.length_cons, List.length_nil, List.replicate, List.cons_append, List.nil_append]
  simp [isNon]
theorem same_lc {xs : List D} {d : D} {e : Env} (hd : d = .lst xs ∨ d = .tup xs) (hG : ∀ x ∈ xs, ∀ S', Γ i [x, x] S' = .ok (.bl true) S') (hl : xs.length ≤ sizeLine) :
    eFn oAll (dCons (eLc [2] (dRng1 (eFn oLen (dCons (eVar 1) dNil))) (gNm 2) tYesD (eCall Γ i (dCons (eBin oIdx (eVar 0) (eVar 2)) (dCons (eBin oIdx (eVar 1) (eVar 2)) dNil)))) dNil) (some d :: some d :: none :: e) S = .ok (.bl true) S := by
  have hlen : oLen [d] S = .ok (.int xs.length) S := by rcases hd with rfl | rfl <;> rfl
  have hR : inR (xs.length : Int) = true := by
    have : sizeLine = 16777216 := by decide
    unfold inR
    simp
    omega
  have hn : (intsD 0 (xs.length : Int).toNat).length = xs.length := by unfold intsD; simp
  have h := eLc_pure (vs := [2]) (gi := dRng1 (eFn oLen (dCons (eVar 1) dNil))) (g := gNm 2) (f := eCall Γ i (dCons (eBin oIdx (eVar 0) (eVar 2)) (dCons (eBin oIdx (eVar 1) (eVar 2)) dNil))) (e := some d :: some d :: none :: e) (S := S) (xs := intsD 0 (xs.length : Int).toNat) (fun x => .bl true)
    (by unfold dRng1; simp only [eFn_ap, dCons_ap, eVar_c, eVar_c0, dNil_ap, R.bind, hlen, hR, if_true])
    (fun x hx S' => ⟨_, rfl, by
      unfold intsD at hx
      simp only [List.mem_map, List.mem_range] at hx
      obtain ⟨k, hk, rfl⟩ := hx
      have hk' : k < xs.length := by omega
      have e1 : oIdx d (.int (0 + (k : Int))) S' = .ok xs[k] S' := by
        rw [Int.zero_add]
        rcases hd with rfl | rfl
        · exact idx_lst (atI_nat hk')
        · rw [idx_tup, atI_nat hk']
      simp only [wipeE, List.set, eCall_ap, dCons_ap, eBin_ap, eVar_c, eVar_c0, dNil_ap, R.bind, e1]
      exact hG _ (List.getElem_mem hk') S'⟩) (fun _ _ => rfl) (by rw [hn]; exact hl)
  rw [eFn_ap, dCons_ap, h]
  have := oAll_map (xs := intsD 0 (xs.length : Int).toNat) (p := fun _ => true) (S := S)
  simp only [R.bind, dNil_ap]
  rw [this, List.all_eq_true.mpr (fun _ _ => rfl)]
theorem sameT_sq {F : Den} {xs : List D} {d : D} (hd : d = .lst xs ∨ d = .tup xs) (h : F [some d, some d, none] S = .ok (.bl true) S) : runBody (sameT anc F) 3 [d, d] S = .ok (.bl true) S := by
  unfold runBody sameT
  simp only [List.map_cons, List.map_nil, List.length_cons, List.length_nil, List.replicate, List.cons_append, List.nil_append]
  have hlen : oLen [d] S = .ok (.int xs.length) S := by rcases hd with rfl | rfl <;> rfl
  rcases hd with rfl | rfl <;>
  simp only [sSeq_ap, sIf_ap, tVal_ap, eUn_ap, oIsN_ap, eVar_c, eVar_c0, R.bind, isNon, Bool.false_eq_true, if_false, sPass_ap, eIsi_ap, kd_lst, kd_tup, optR_some, List.any_cons, List.any_nil, isK_list_bool, isK_list_str, isK_list_int, isK_list_list, isK_list_tuple, isK_tuple_bool, isK_tuple_str, isK_tuple_int, isK_tuple_list, isK_tuple_tuple, Bool.or_self, Bool.or_false, tOr_ap, eBin_ap, oNe_b, BEq.rfl, Bool.not_true, sRet_ap, eAnd_ap, eFn_ap, dCons_ap, dNil_ap, hlen, oEq_i, h]
theorem same_sq {xs : List D} {d : D} (hd : d = .lst xs ∨ d = .tup xs) (hG : ∀ x ∈ xs, ∀ S', Γ i [x, x] S' = .ok (.bl true) S') (hl : xs.length ≤ sizeLine) : runBody (sameD anc Γ i) 3 [d, d] S = .ok (.bl true) S :=
  sameT_sq hd (same_lc hd hG hl)
end
end Py

set_option maxHeartbeats 4000000
/-! PyS: a store that grows beside the pot. -/
namespace Py
open PySem (Str sizeLine)
/-- what was there stays, but for p -/
def Fr2 (S S' : Store) (p : Nat) : Prop := S.length ≤ S'.length ∧ ∀ k, k < S.length → k ≠ p → S'[k]? = S[k]?
theorem Fr2.refl {S : Store} {p : Nat} : Fr2 S S p := ⟨Nat.le_refl _, fun _ _ _ => rfl⟩
theorem Fr2.trans {S S1 S2 : Store} {p : Nat} (a : Fr2 S S1 p) (b : Fr2 S1 S2 p) : Fr2 S S2 p := ⟨Nat.le_trans a.1 b.1, fun k h1 h2 => (b.2 k (Nat.lt_of_lt_of_le h1 a.1) h2).trans (a.2 k h1 h2)⟩
theorem Fr1.to2 {S S1 : Store} {p : Nat} (a : Fr1 S S1 p) : Fr2 S S1 p := ⟨Nat.le_of_eq a.1.symm, fun k _ h => a.2 k h⟩
theorem Fr2.app {S T : Store} {p : Nat} : Fr2 S (S ++ T) p := ⟨by rw [List.length_append]; omega, fun k h _ => List.getElem?_append_left h⟩
theorem Fr2.set {S : Store} {p q : Nat} {o : O} (h : S.length ≤ q) {S1 : Store} (a : Fr2 S S1 p) : Fr2 S (S1.set q o) p := ⟨by rw [List.length_set]; exact a.1, fun k h1 h2 => by rw [List.getElem?_set_ne (by omega)]; exact a.2 k h1 h2⟩
theorem tidy_pot {S S' : Store} {p : Nat} {d : D} (hn : noRef d = true) (hp : p < S.length) (hP : Pot S' p) (hF : Fr2 S S' p) : ∃ S2, tidy S (.ok d S') = .ok d S2 ∧ Pot S2 p ∧ Fr2 S S2 p := by
  by_cases hl : S'.length ≤ S.length
  · exact ⟨S', tidy_ok hl, hP, hF⟩
  · simp only [tidy, if_neg hl, res_no hn]
    by_cases ho : Old S S'
    · rw [if_pos ho]
      have g : ∀ k, k < S.length → (S'.take S.length)[k]? = S'[k]? := fun k hk => by rw [List.getElem?_take, if_pos hk]
      refine ⟨_, rfl, hP.same (g p hp), ?_, fun k h1 h2 => (g k h1).trans (hF.2 k h1 h2)⟩
      rw [List.length_take]
      omega
    · rw [if_neg ho]
      exact ⟨S', rfl, hP, hF⟩
theorem dRng1_ok {f : Den} {e : Env} {S S1 : Store} {j : Int} (h : f e S = .ok (.int j) S1) (h0 : 0 ≤ j) (h1 : j ≤ 16777216) : dRng1 f e S = .ok (wkL (intsD 0 j.toNat), (intsD 0 j.toNat).length) S1 := by
  unfold dRng1
  rw [h]
  have hR : inR j = true := by
    unfold inR
    simp
    omega
  simp only [R.bind, hR, if_true]
theorem intsD_len {lo : Int} {n : Nat} : (intsD lo n).length = n := by unfold intsD; rw [List.length_map, List.length_range]
theorem intsD_at {lo : Int} {n i : Nat} {x : D} (h : (intsD lo n)[i]? = some x) : i < n ∧ x = .int (lo + i) := by
  unfold intsD at h
  rw [List.getElem?_map] at h
  cases q : (List.range n)[i]? with
  | none => rw [q] at h; cases h
  | some k =>
    rw [q] at h
    cases h
    have h1 := (List.getElem?_eq_some_iff.mp q)
    obtain ⟨h2, h3⟩ := h1
    rw [List.length_range] at h2
    rw [List.getElem_range] at h3
    subst h3
    exact ⟨h2, rfl⟩
end Py

set_option maxHeartbeats 4000000
/-! PyU: polynomials as rows of integers, the highest power first: plain arithmetic. -/
namespace Py
/-- what f is worth at a/b, times b to the degree -/
def hev (a b : Int) : List Int → Int
  | [] => 0
  | c :: cs => c * a ^ cs.length + b * hev a b cs
theorem hev_snoc {a b c : Int} : ∀ {f : List Int}, hev a b (f ++ [c]) = a * hev a b f + c * b ^ f.length
  | [] => by simp [hev]
  | d :: f => by
    simp only [List.cons_append, hev, List.length_append, List.length_cons, List.length_nil]
    rw [hev_snoc]
    simp only [Int.pow_succ, Int.mul_add, Int.zero_add]
    rw [show d * (a ^ f.length * a) = a * (d * a ^ f.length) by ac_rfl, show b * (a * hev a b f) = a * (b * hev a b f) by ac_rfl, show b * (c * b ^ f.length) = c * (b ^ f.length * b) by ac_rfl]
    omega
theorem hev_zeros {a b : Int} : ∀ {k : Nat} {f : List Int}, hev a b (List.replicate k 0 ++ f) = b ^ k * hev a b f
  | 0, f => by simp
  | k + 1, f => by
    simp only [List.replicate_succ, List.cons_append, hev, Int.zero_mul, Int.zero_add]
    rw [hev_zeros, Int.pow_succ]
    ac_rfl
theorem hev_add {a b : Int} : ∀ {f g : List Int}, f.length = g.length → hev a b (List.zipWith (· + ·) f g) = hev a b f + hev a b g
  | [], [], _ => by simp [hev]
  | c :: f, d :: g, h => by
    simp only [List.length_cons] at h
    have hl : f.length = g.length := by omega
    simp only [List.zipWith_cons_cons, hev, List.length_zipWith]
    rw [hev_add hl, ← hl, Nat.min_self]
    simp only [Int.add_mul, Int.mul_add]
    omega
theorem hev_scale {a b k : Int} : ∀ {f : List Int}, hev a b (f.map (k * ·)) = k * hev a b f
  | [] => by simp [hev]
  | c :: f => by
    simp only [List.map_cons, hev, List.length_map]
    rw [hev_scale, Int.mul_add]
    rw [show k * c * a ^ f.length = k * (c * a ^ f.length) by ac_rfl, show b * (k * hev a b f) = k * (b * hev a b f) by ac_rfl]
def trim : List Int → List Int
  | [] => []
  | c :: cs => if c = 0 then trim cs else c :: cs
theorem hev_trim {a b : Int} : ∀ {f : List Int}, hev a b f * b ^ ((trim f).length - 1) = hev a b (trim f) * b ^ (f.length - 1)
  | [] => rfl
  | c :: f => by
    unfold trim
    by_cases hc : c = 0
    · subst hc
      rw [if_pos rfl]
      simp only [hev, Int.zero_mul, Int.zero_add, List.length_cons, Nat.add_sub_cancel]
      have ih := hev_trim (a := a) (b := b) (f := f)
      cases f with
      | nil => simp [hev, trim]
      | cons d f =>
        simp only [List.length_cons, Nat.add_sub_cancel] at ih
        rw [Int.mul_assoc, ih, List.length_cons, Int.pow_succ]
        ac_rfl
    · rw [if_neg hc]
theorem hev_set {a b : Int} : ∀ {f : List Int} {i : Nat} {d : Int} (h : i < f.length), hev a b (f.set i (f[i] + d)) = hev a b f + d * a ^ (f.length - 1 - i) * b ^ i
  | [], i, d, h => by simp at h
  | c :: f, 0, d, h => by
    simp only [List.set_cons_zero, hev, List.getElem_cons_zero, List.length_cons, Nat.add_sub_cancel, Nat.sub_zero, Int.pow_zero, Int.mul_one, Int.add_mul]
    omega
  | c :: f, i + 1, d, h => by
    simp only [List.length_cons] at h
    have hi : i < f.length := by omega
    simp only [List.set_cons_succ, hev, List.getElem_cons_succ, List.length_set, List.length_cons]
    rw [hev_set hi, Int.mul_add, show f.length + 1 - 1 - (i + 1) = f.length - 1 - i by omega, Int.pow_succ]
    rw [show b * (d * a ^ (f.length - 1 - i) * b ^ i) = d * a ^ (f.length - 1 - i) * (b ^ i * b) by ac_rfl]
    omega
/-- into acc, from place o on, c times each of g -/
def rowAdd (c : Int) : List Int → Nat → List Int → List Int
  | [], _, acc => acc
  | d :: g, o, acc => rowAdd c g (o + 1) (acc.set o (acc.getD o 0 + c * d))
theorem rowAdd_len {c : Int} : ∀ {g : List Int} {o : Nat} {acc : List Int}, (rowAdd c g o acc).length = acc.length
  | [], _, _ => rfl
  | d :: g, o, acc => by unfold rowAdd; rw [rowAdd_len, List.length_set]
def convA : List Int → List Int → Nat → List Int → List Int
  | [], _, _, acc => acc
  | c :: f, g, o, acc => convA f g (o + 1) (rowAdd c g o acc)
theorem convA_len : ∀ {f g : List Int} {o : Nat} {acc : List Int}, (convA f g o acc).length = acc.length
  | [], _, _, _ => rfl
  | c :: f, g, o, acc => by unfold convA; rw [convA_len, rowAdd_len]
def conv (f g : List Int) : List Int := convA f g 0 (List.replicate (f.length + g.length - 1) 0)
theorem hev_rowAdd {a b c : Int} : ∀ {g : List Int} {o n : Nat} {acc : List Int}, o + g.length + n = acc.length →
    hev a b (rowAdd c g o acc) = hev a b acc + c * hev a b g * a ^ n * b ^ o
  | [], o, n, acc, _ => by simp [rowAdd, hev]
  | d :: g, o, n, acc, h => by
    simp only [List.length_cons] at h
    have ho : o < acc.length := by omega
    unfold rowAdd
    rw [hev_rowAdd (n := n) (by rw [List.length_set]; omega)]
    have : acc.getD o 0 = acc[o] := by simp [ho]
    rw [this, hev_set ho, show acc.length - 1 - o = g.length + n by omega, Int.pow_add]
    simp only [hev, Int.mul_add, Int.add_mul, Int.pow_succ]
    rw [show c * d * (a ^ g.length * a ^ n) * b ^ o = c * (d * a ^ g.length) * a ^ n * b ^ o by ac_rfl, show c * hev a b g * a ^ n * (b ^ o * b) = c * (b * hev a b g) * a ^ n * b ^ o by ac_rfl]
    omega
theorem hev_convA {a b : Int} : ∀ {f g : List Int} {o : Nat} {acc : List Int}, g ≠ [] → o + f.length + g.length = acc.length + 1 →
    hev a b (convA f g o acc) = hev a b acc + hev a b f * hev a b g * b ^ o
  | [], g, o, acc, _, _ => by simp [convA, hev]
  | c :: f, g, o, acc, hg, h => by
    simp only [List.length_cons] at h
    unfold convA
    rw [hev_convA hg (by rw [rowAdd_len]; omega), hev_rowAdd (n := f.length) (by omega)]
    simp only [hev, Int.add_mul, Int.pow_succ]
    rw [show c * hev a b g * a ^ f.length * b ^ o = c * a ^ f.length * hev a b g * b ^ o by ac_rfl, show hev a b f * hev a b g * (b ^ o * b) = b * hev a b f * hev a b g * b ^ o by ac_rfl]
    omega
theorem hev_zero {a b : Int} {n : Nat} : hev a b (List.replicate n 0) = 0 := by
  have := hev_zeros (a := a) (b := b) (k := n) (f := [])
  simpa [hev] using this
theorem hev_conv {a b : Int} {f g : List Int} (hf : f ≠ []) (hg : g ≠ []) : hev a b (conv f g) = hev a b f * hev a b g := by
  have h1 : 0 < f.length := List.length_pos_iff.mpr hf
  have h2 : 0 < g.length := List.length_pos_iff.mpr hg
  unfold conv
  rw [hev_convA hg (by rw [List.length_replicate]; omega), hev_zero]
  simp
end Py

set_option maxHeartbeats 4000000
/-! PyV: numbers in lowest terms, as fractions; walks of pairs. -/
namespace Py
open PySem (Str sizeLine)
/-- a/b in lowest terms -/
def low (a b : Int) : Int × Int := (a.fdiv (cofP a b), b.fdiv (cofP a b))
structure LowF (a b p q : Int) : Prop where
  ex : ∃ g : Int, 0 < g ∧ a = p * g ∧ b = q * g
  pos : 0 < q
  cop : Nat.gcd p.natAbs q.natAbs = 1
  lp : p.natAbs ≤ a.natAbs
  lq : q.natAbs ≤ b.natAbs
  nz : a ≠ 0 → p ≠ 0
theorem low_f {a b : Int} (hb : 0 < b) : LowF a b (low a b).1 (low a b).2 := by
  have hc : cofP a b = ((Nat.gcd a.natAbs b.natAbs : Nat) : Int) := if_neg (by omega)
  show LowF a b (a.fdiv (cofP a b)) (b.fdiv (cofP a b))
  rw [hc]
  have hp : 0 < Nat.gcd a.natAbs b.natAbs := Nat.gcd_pos_of_pos_right _ (Int.natAbs_pos.mpr (by omega))
  have d1 : Nat.gcd a.natAbs b.natAbs ∣ a.natAbs := Nat.gcd_dvd_left _ _
  have d2 : Nat.gcd a.natAbs b.natAbs ∣ b.natAbs := Nat.gcd_dvd_right _ _
  have hg := Nat.gcd_div d1 d2
  have l1 : a ≠ 0 → Nat.gcd a.natAbs b.natAbs ≤ a.natAbs := fun h => Nat.gcd_le_left _ (Int.natAbs_pos.mpr h)
  have l2 : Nat.gcd a.natAbs b.natAbs ≤ b.natAbs := Nat.gcd_le_right _ (Int.natAbs_pos.mpr (by omega))
  rw [Nat.div_self hp] at hg
  generalize Nat.gcd a.natAbs b.natAbs = g at *
  have D1 : (g : Int) ∣ a := Int.ofNat_dvd_left.mpr d1
  have D2 : (g : Int) ∣ b := Int.ofNat_dvd_left.mpr d2
  have e1 : (a.fdiv (g : Int)).natAbs = a.natAbs / g := by
    rw [Int.fdiv_eq_ediv_of_nonneg _ (by omega), Int.natAbs_ediv_of_dvd D1, Int.natAbs_natCast]
  have e2 : (b.fdiv (g : Int)).natAbs = b.natAbs / g := by
    rw [Int.fdiv_eq_ediv_of_nonneg _ (by omega), Int.natAbs_ediv_of_dvd D2, Int.natAbs_natCast]
  have p2 : 0 < b.natAbs / g := Nat.div_pos l2 hp
  have q2 : 0 ≤ b.fdiv (g : Int) := Int.fdiv_nonneg (by omega) (by omega)
  refine ⟨⟨g, by omega, ?_, ?_⟩, by omega, by rw [e1, e2]; exact hg, by rw [e1]; exact Nat.div_le_self _ _, by rw [e2]; exact Nat.div_le_self _ _, fun h hz => ?_⟩
  · rw [Int.fdiv_eq_ediv_of_nonneg _ (by omega), Int.ediv_mul_cancel D1]
  · rw [Int.fdiv_eq_ediv_of_nonneg _ (by omega), Int.ediv_mul_cancel D2]
  · have p1 : 0 < a.natAbs / g := Nat.div_pos (l1 h) hp
    rw [hz] at e1
    simp at e1
    omega
theorem cop_eq {p q p' q' : Int} (h1 : 0 < q) (h2 : 0 < q') (c1 : Nat.gcd p.natAbs q.natAbs = 1) (c2 : Nat.gcd p'.natAbs q'.natAbs = 1) (h : p * q' = p' * q) : p = p' ∧ q = q' := by
  have hn : p.natAbs * q'.natAbs = p'.natAbs * q.natAbs := by rw [← Int.natAbs_mul, ← Int.natAbs_mul, h]
  have d1 : q.natAbs ∣ q'.natAbs := Nat.Coprime.dvd_of_dvd_mul_left (show Nat.Coprime q.natAbs p.natAbs from by rw [Nat.coprime_comm]; exact c1) ⟨p'.natAbs, by rw [hn, Nat.mul_comm]⟩
  have d2 : q'.natAbs ∣ q.natAbs := Nat.Coprime.dvd_of_dvd_mul_left (show Nat.Coprime q'.natAbs p'.natAbs from by rw [Nat.coprime_comm]; exact c2) ⟨p.natAbs, by rw [← hn, Nat.mul_comm]⟩
  have e : q.natAbs = q'.natAbs := Nat.dvd_antisymm d1 d2
  have eq : q = q' := by omega
  subst eq
  exact ⟨Int.eq_of_mul_eq_mul_right (by omega) h, rfl⟩
theorem low_eq {T U T' U' : Int} (h1 : 0 < U) (h2 : 0 < U') (h : T * U' = T' * U) : low T U = low T' U' := by
  have f1 := low_f (a := T) h1
  have f2 := low_f (a := T') h2
  generalize hx : low T U = x at f1 ⊢
  generalize hy : low T' U' = y at f2 ⊢
  obtain ⟨g, hg, ea, eb⟩ := f1.ex
  obtain ⟨g', hg', ea', eb'⟩ := f2.ex
  have h3 : x.1 * y.2 = y.1 * x.2 := by
    have : (x.1 * y.2) * (g * g') = (y.1 * x.2) * (g * g') := by
      rw [ea, eb, ea', eb'] at h
      rw [show x.1 * y.2 * (g * g') = x.1 * g * (y.2 * g') by ac_rfl, h]
      ac_rfl
    exact Int.eq_of_mul_eq_mul_right (Int.ne_of_gt (Int.mul_pos hg hg')) this
  obtain ⟨e1, e2⟩ := cop_eq f1.pos f2.pos f1.cop f2.cop h3
  exact Prod.ext e1 e2
/-- what low p is worth -/
theorem low_val {a b : Int} (hb : 0 < b) : (low a b).1 * b = a * (low a b).2 := by
  obtain ⟨g, hg, ea, eb⟩ := (low_f (a := a) hb).ex
  generalize low a b = x at *
  rw [ea, eb]
  ac_rfl
/-! walks -/
def enumP (xs : List D) : List D := xs.mapIdx fun i d => .tup [.int (i : Nat), d]
def zipP (xs ys : List D) : List D := List.zipWith (fun x y => .tup [x, y]) xs ys
theorem enumP_len {xs : List D} : (enumP xs).length = xs.length := List.length_mapIdx
theorem enumP_get {xs : List D} {i : Nat} : (enumP xs)[i]? = xs[i]?.map fun d => .tup [.int i, d] := List.getElem?_mapIdx
theorem dEnumA_tup {f : Den} {e : Env} {S S1 : Store} {xs : List D} (h : f e S = .ok (.tup xs) S1) : dEnumA f e S = .ok (wkL (enumP xs), (enumP xs).length) S1 := by
  unfold dEnumA
  rw [h]
  show R.ok (wkE (wkL xs), xs.length) S1 = _
  rw [wkE_L, enumP_len]
  rfl
theorem dZip2_tup {f g : Den} {e : Env} {S S1 S2 : Store} {xs ys : List D} (h : f e S = .ok (.tup xs) S1) (h2 : g e S1 = .ok (.tup ys) S2) : dZip2 f g e S = .ok (wkL (zipP xs ys), (zipP xs ys).length) S2 := by
  unfold dZip2
  rw [h]
  simp only [R.bind, h2]
  show R.ok (wkZ (wkL xs) (wkL ys), min xs.length ys.length) S2 = _
  rw [wkZ_L, show (zipP xs ys).length = min xs.length ys.length from List.length_zipWith ..]
  rfl
theorem dZip2_lst {f g : Den} {e : Env} {S S1 S2 : Store} {xs ys : List D} (h : f e S = .ok (.lst xs) S1) (h2 : g e S1 = .ok (.lst ys) S2) : dZip2 f g e S = .ok (wkL (zipP xs ys), (zipP xs ys).length) S2 := by
  unfold dZip2
  rw [h]
  simp only [R.bind, h2]
  show R.ok (wkZ (wkL xs) (wkL ys), min xs.length ys.length) S2 = _
  rw [wkZ_L, show (zipP xs ys).length = min xs.length ys.length from List.length_zipWith ..]
  rfl
end Py

set_option maxHeartbeats 4000000
/-! PyW: noughts ahead stripped, bounds of worths. -/
namespace Py
open PySem (Str sizeLine)
def nz0 (l : List Int) (k : Nat) : Bool := match l[k]? with | some c => c == 0 | none => false
theorem while_trim {S : Store} {T : DenT} {B : DenS} {E : Nat → Env} {l : List Int} (hT : ∀ k, k ≤ l.length → T (E k) S = .ok (nz0 l k) S) (hB : ∀ k, B (E k) S = .next (E (k + 1)) S) :
    ∀ (m k : Nat), k + m = l.length → ∃ k', sWhile T B (E k) S = .next (E k') S ∧ k' ≤ l.length ∧ l.drop k' = trim (l.drop k) := by
  intro m
  induction m with
  | zero =>
    intro k hk
    refine ⟨k, ?_, by omega, ?_⟩
    · rw [sWhile_eq, hT k (by omega)]
      have : nz0 l k = false := by unfold nz0; rw [List.getElem?_eq_none (by omega)]
      simp only [this]
    · rw [List.drop_eq_nil_of_le (by omega)]; rfl
  | succ m ih =>
    intro k hk
    have hlt : k < l.length := by omega
    by_cases hz : l[k] = 0
    · obtain ⟨k', h1, h2, h3⟩ := ih (k + 1) (by omega)
      refine ⟨k', ?_, h2, ?_⟩
      · rw [sWhile_eq, hT k (by omega)]
        have : nz0 l k = true := by unfold nz0; rw [List.getElem?_eq_getElem hlt]; simp [hz]
        simp only [this, hB, h1]
      · rw [h3, List.drop_eq_getElem_cons hlt, hz]
        rfl
    · refine ⟨k, ?_, by omega, ?_⟩
      · rw [sWhile_eq, hT k (by omega)]
        have : nz0 l k = false := by unfold nz0; rw [List.getElem?_eq_getElem hlt]; simp [hz]
        simp only [this]
      · rw [List.drop_eq_getElem_cons hlt]
        unfold trim
        rw [if_neg hz]
theorem cut_drop {xs : List D} {k : Nat} (h : k ≤ xs.length) : cutD xs (some (k : Int)) none = xs.drop k := by
  unfold cutD
  rw [HT.sIx_nat, HT.sIx_none, Nat.min_eq_left h]
  exact List.take_of_length_le (by rw [List.length_drop]; omega)
theorem trim_len : ∀ {l : List Int}, (trim l).length ≤ l.length
  | [] => Nat.le_refl _
  | c :: cs => by
    unfold trim
    split
    · have := trim_len (l := cs); simp only [List.length_cons]; omega
    · exact Nat.le_refl _
theorem trim_mem : ∀ {l : List Int} {c : Int}, c ∈ trim l → c ∈ l
  | d :: cs, c, h => by
    unfold trim at h
    split at h
    · exact List.mem_cons_of_mem _ (trim_mem h)
    · exact h
/-- no nought ahead -/
def Lead (l : List Int) : Prop := ∀ c, l.head? = some c → c ≠ 0
theorem trim_lead : ∀ {l : List Int}, Lead (trim l)
  | [], c, h => by cases h
  | d :: cs, c, h => by
    unfold trim at h
    split at h
    · exact trim_lead c h
    · cases h; assumption
theorem lead_poly {l : List Int} (h : Lead l) : polyB (.tup (l.map .int)) = true := by
  unfold polyB
  rw [Bool.and_eq_true]
  constructor
  · rw [List.all_eq_true]
    intro x hx
    obtain ⟨c, _, rfl⟩ := List.mem_map.mp hx
    rfl
  · cases l with
    | nil => rfl
    | cons c cs => simpa using h c rfl
theorem lead_hev {c : Int} {cs : List Int} : hev 1 0 (c :: cs) = c := by simp [hev, Int.one_pow]
theorem conv_len {f g : List Int} : (conv f g).length = f.length + g.length - 1 := by unfold conv; rw [convA_len, List.length_replicate]
theorem conv_lead {f g : List Int} (hf : f ≠ []) (hg : g ≠ []) (h1 : Lead f) (h2 : Lead g) : Lead (conv f g) := by
  intro c hc
  have hv := hev_conv (a := 1) (b := 0) hf hg
  cases f with
  | nil => exact absurd rfl hf
  | cons x f =>
    cases g with
    | nil => exact absurd rfl hg
    | cons y g =>
      cases q : conv (x :: f) (y :: g) with
      | nil => rw [q] at hc; cases hc
      | cons z zs =>
        rw [q] at hc hv
        cases hc
        rw [lead_hev, lead_hev, lead_hev] at hv
        rw [hv]
        exact Int.mul_ne_zero (h1 x rfl) (h2 y rfl)
/-! bounds -/
def Bd (p : Nat) (l : List Int) : Prop := ∀ c ∈ l, c.natAbs ≤ 2 ^ p
theorem pow_bd {a : Int} {k : Nat} (ha : a.natAbs ≤ 2 ^ k) (n : Nat) : (a ^ n).natAbs ≤ 2 ^ (k * n) := by
  rw [Int.natAbs_pow, Nat.pow_mul]
  exact Nat.pow_le_pow_left ha n
theorem mul_bd {a b : Int} {j k : Nat} (ha : a.natAbs ≤ 2 ^ j) (hb : b.natAbs ≤ 2 ^ k) : (a * b).natAbs ≤ 2 ^ (j + k) := by
  rw [Int.natAbs_mul, Nat.pow_add]
  exact Nat.mul_le_mul ha hb
theorem add_bd {a b : Int} {j : Nat} (ha : a.natAbs ≤ 2 ^ j) (hb : b.natAbs ≤ 2 ^ j) : (a + b).natAbs ≤ 2 ^ (j + 1) := by
  have := Int.natAbs_add_le a b
  rw [Nat.pow_succ]
  omega
theorem bd_mono {a : Int} {j k : Nat} (ha : a.natAbs ≤ 2 ^ j) (h : j ≤ k) : a.natAbs ≤ 2 ^ k := Nat.le_trans ha (Nat.pow_le_pow_right (by decide) h)
theorem bd_lt {a : Int} {j : Nat} (ha : a.natAbs ≤ 2 ^ j) (h : j < 1000) : a.natAbs < 2 ^ 1000 := Nat.lt_of_le_of_lt ha (Nat.pow_lt_pow_right (by decide) h)
theorem hev_bd {a b : Int} {p : Nat} (ha : a.natAbs ≤ 2 ^ 10) (hb : b.natAbs ≤ 2 ^ 10) : ∀ {f : List Int}, Bd p f → (hev a b f).natAbs ≤ 2 ^ (p + 11 * f.length)
  | [], _ => by show 0 ≤ _; exact Nat.zero_le _
  | c :: f, h => by
    have ih := hev_bd ha hb (f := f) fun d hd => h d (List.mem_cons_of_mem _ hd)
    have h1 := mul_bd (h c List.mem_cons_self) (pow_bd ha f.length)
    have h2 := mul_bd hb ih
    have := add_bd (bd_mono h1 (show p + 10 * f.length ≤ p + 11 * f.length + 10 by omega)) (bd_mono h2 (show 10 + (p + 11 * f.length) ≤ p + 11 * f.length + 10 by omega))
    simp only [hev, List.length_cons]
    exact bd_mono this (by omega)
end Py

set_option maxHeartbeats 4000000
/-! PyX: bounds of products. -/
namespace Py
theorem rowAdd_low {c : Int} : ∀ {g : List Int} {o k : Nat} {acc : List Int}, k < o → (rowAdd c g o acc).getD k 0 = acc.getD k 0
  | [], _, _, _, _ => rfl
  | d :: g, o, k, acc, h => by
    unfold rowAdd
    rw [rowAdd_low (by omega)]
    simp only [List.getD_eq_getElem?_getD]
    rw [List.getElem?_set_ne (by omega)]
theorem rowAdd_bd {c : Int} {B : Nat} : ∀ {g : List Int} {o k : Nat} {acc : List Int}, (∀ d ∈ g, (c * d).natAbs ≤ B) → ((rowAdd c g o acc).getD k 0).natAbs ≤ (acc.getD k 0).natAbs + B
  | [], o, k, acc, _ => by show (acc.getD k 0).natAbs ≤ _; omega
  | d :: g, o, k, acc, h => by
    have hd := h d List.mem_cons_self
    unfold rowAdd
    by_cases hk : k = o
    · subst hk
      rw [rowAdd_low (by omega)]
      by_cases hl : k < acc.length
      · have : (acc.set k (acc.getD k 0 + c * d)).getD k 0 = acc.getD k 0 + c * d := by simp [hl]
        rw [this]
        have := Int.natAbs_add_le (acc.getD k 0) (c * d)
        omega
      · have : (acc.set k (acc.getD k 0 + c * d)).getD k 0 = 0 := by
          rw [List.getD_eq_getElem?_getD, List.getElem?_eq_none (by rw [List.length_set]; omega)]; rfl
        rw [this]; simp
    · have ih := rowAdd_bd (c := c) (B := B) (o := o + 1) (k := k) (acc := acc.set o (acc.getD o 0 + c * d)) fun x hx => h x (List.mem_cons_of_mem _ hx)
      have : (acc.set o (acc.getD o 0 + c * d)).getD k 0 = acc.getD k 0 := by
        simp only [List.getD_eq_getElem?_getD]
        rw [List.getElem?_set_ne (by omega)]
      rw [this] at ih
      exact ih
theorem convA_bd {B : Nat} : ∀ {f g : List Int} {o k : Nat} {acc : List Int}, (∀ c ∈ f, ∀ d ∈ g, (c * d).natAbs ≤ B) → ((convA f g o acc).getD k 0).natAbs ≤ (acc.getD k 0).natAbs + f.length * B
  | [], g, o, k, acc, _ => by show (acc.getD k 0).natAbs ≤ _; omega
  | c :: f, g, o, k, acc, h => by
    unfold convA
    have h1 := convA_bd (B := B) (g := g) (o := o + 1) (k := k) (acc := rowAdd c g o acc) fun x hx => h x (List.mem_cons_of_mem _ hx)
    have h2 := rowAdd_bd (c := c) (B := B) (g := g) (o := o) (k := k) (acc := acc) fun d hd => h c List.mem_cons_self d hd
    rw [List.length_cons, Nat.add_mul, Nat.one_mul]
    omega
theorem conv_bd {f g : List Int} {p q : Nat} (hf : Bd p f) (hg : Bd q g) (hl : f.length ≤ 16) : Bd (p + q + 4) (conv f g) := by
  intro x hx
  obtain ⟨k, hk, rfl⟩ := List.mem_iff_getElem.mp hx
  have h := convA_bd (B := 2 ^ (p + q)) (f := f) (g := g) (o := 0) (k := k) (acc := List.replicate (f.length + g.length - 1) 0) fun c hc d hd => mul_bd (hf c hc) (hg d hd)
  have e1 : (convA f g 0 (List.replicate (f.length + g.length - 1) 0)).getD k 0 = (conv f g)[k] := by
    show (conv f g).getD k 0 = _
    simp [hk]
  have e2 : (List.replicate (f.length + g.length - 1) (0 : Int)).getD k 0 = 0 := by
    rw [List.getD_eq_getElem?_getD, List.getElem?_replicate]
    split <;> rfl
  rw [e1, e2] at h
  have h3 : f.length * 2 ^ (p + q) ≤ 16 * 2 ^ (p + q) := Nat.mul_le_mul_right _ hl
  rw [Nat.pow_add 2 (p + q) 4]
  omega
end Py

set_option maxHeartbeats 4000000
/-! PyY: what is to be shown of an expression, of a statement: backwards. -/
namespace Py
open PySem (Str sizeLine)
section
variable {α β : Type} {r r' : R α} {f g h : Den} {gs hs : Dens} {e : Env} {S : Store} {E : Nat → D → Store → Prop} {t u : DenT} {F G : DenS} {Γ : Calls} {i j : Nat}
theorem ok_of_Sat {r : R D} {d : D} {S : Store} (h : Sat r (fun d' S' => d' = d ∧ S' = S) (fun _ _ _ => False)) : r = .ok d S := by
  cases r with
  | ok a S => obtain ⟨rfl, rfl⟩ := h; rfl
  | err c v S => exact h.elim
  | bad => exact h.elim
theorem err_of_Sat {r : R D} {c : Nat} {d : D} {S : Store} (h : Sat r (fun _ _ => False) (fun c' d' S' => c' = c ∧ d' = d ∧ S' = S)) : r = .err c d S := by
  cases r with
  | ok a S => exact h.elim
  | err c v S => obtain ⟨rfl, rfl, rfl⟩ := h; rfl
  | bad => exact h.elim
theorem Sat_use {Q Q' : α → Store → Prop} {E0 E : Nat → D → Store → Prop} (h : Sat r Q E0) (he : ∀ c v S, E0 c v S → E c v S) (hq : ∀ a S, Q a S → Q' a S) : Sat r Q' E := h.mono hq he
theorem Sat_use0 {Q Q' : α → Store → Prop} {E : Nat → D → Store → Prop} (h : Sat r Q (fun _ _ _ => False)) (hq : ∀ a S, Q a S → Q' a S) : Sat r Q' E := h.mono hq fun _ _ _ z => z.elim
@[simp] theorem Sat_ok {a : α} {Q : α → Store → Prop} : Sat (.ok a S) Q E = Q a S := rfl
@[simp] theorem Sat_err {c : Nat} {v : D} {Q : α → Store → Prop} : Sat (.err c v S) Q E = E c v S := rfl
@[simp] theorem Sat_bad {Q : α → Store → Prop} : Sat .bad Q E = False := rfl
@[simp] theorem Sat_bind {k : α → Store → R β} {Q : β → Store → Prop} : Sat (r.bind k) Q E = Sat r (fun a S => Sat (k a S) Q E) E := by cases r <;> rfl
@[simp] theorem Sat_ite {c : Prop} [Decidable c] {Q : α → Store → Prop} : Sat (if c then r else r') Q E = ((c → Sat r Q E) ∧ (¬ c → Sat r' Q E)) := by
  by_cases h : c <;> simp [h]
variable {Q : D → Store → Prop} {QL : List D → Store → Prop} {Qb : Bool → Store → Prop}
@[simp] theorem W_var {o : Env} {d : D} : Sat (eVar 0 (some d :: o) S) Q E = Q d S := rfl
@[simp] theorem W_vars {o : Env} {x : Option D} : Sat (eVar (i + 1) (x :: o) S) Q E = Sat (eVar i o S) Q E := rfl
@[simp] theorem W_c {d : D} : Sat (eC d e S) Q E = Q d S := rfl
@[simp] theorem W_nil : Sat (dNil e S) QL E = QL [] S := rfl
@[simp] theorem W_cons : Sat (dCons f gs e S) QL E = Sat (f e S) (fun a S1 => Sat (gs e S1) (fun as S2 => QL (a :: as) S2) E) E := by simp only [dCons_ap, Sat_bind, Sat_ok]
@[simp] theorem W_tup : Sat (eTup gs e S) Q E = Sat (gs e S) (fun as S1 => Q (.tup as) S1) E := by simp only [eTup_ap, Sat_bind, Sat_ok]
@[simp] theorem W_lst : Sat (eLst gs e S) Q E = Sat (gs e S) (fun as S1 => Q (.lst as) S1) E := by simp only [eLst_ap, Sat_bind, Sat_ok]
@[simp] theorem W_new : Sat (eNew gs e S) Q E = Sat (gs e S) (fun as S1 => Q (.ref S1.length) (S1 ++ [.lst as])) E := by simp only [eNew_ap, Sat_bind, Sat_ok]
@[simp] theorem W_bin {o : Op2} : Sat (eBin o f g e S) Q E = Sat (f e S) (fun a S1 => Sat (g e S1) (fun b S2 => Sat (o a b S2) Q E) E) E := by simp only [eBin_ap, Sat_bind]
@[simp] theorem W_un {o : Op1} : Sat (eUn o f e S) Q E = Sat (f e S) (fun a S1 => Sat (o a S1) Q E) E := by simp only [eUn_ap, Sat_bind]
@[simp] theorem W_fn {o : OpN} : Sat (eFn o gs e S) Q E = Sat (gs e S) (fun as S1 => Sat (o as S1) Q E) E := by simp only [eFn_ap, Sat_bind]
@[simp] theorem W_dfn {o : OpF} : Sat (dFn o gs e S) QL E = Sat (gs e S) (fun as S1 => Sat (o as S1) QL E) E := by simp only [dFn_ap, Sat_bind]
@[simp] theorem W_call : Sat (eCall Γ i gs e S) Q E = Sat (gs e S) (fun as S1 => Sat (Γ i as S1) Q E) E := by simp only [eCall_ap, Sat_bind]
@[simp] theorem W_callP {js : List Nat} : Sat (eCallP Γ i js gs hs e S) Q E = Sat (gs e S) (fun as S1 => Sat (hs e S1) (fun bs S2 => Sat (Γ i (perm js (as ++ bs)) S2) Q E) E) E := by simp only [eCallP_ap, Sat_bind]
@[simp] theorem W_if : Sat (eIf t f g e S) Q E = Sat (t e S) (fun b S1 => Sat (if b = true then f e S1 else g e S1) Q E) E := by simp only [eIf_ap, Sat_bind]
@[simp] theorem W_isi {anc : Anc} {cs : List Cl} : Sat (eIsi anc cs f e S) Q E = Sat (f e S) (fun d S1 => Sat (optR (kdOf anc d S1) fun k => .ok (.bl (cs.any (isK anc k))) S1) Q E) E := by simp only [eIsi_ap, Sat_bind]
@[simp] theorem W_val {anc : Anc} : Sat (eVal anc f e S) Q E = Sat (f e S) (fun d S1 => Sat (exVal anc d S1) Q E) E := by simp only [eVal_ap, Sat_bind]
@[simp] theorem W_setI {o i : Den} : Sat (eSetI f o i e S) Q E = Sat (f e S) (fun v S1 => Sat (o e S1) (fun d S2 => Sat (i e S2) (fun k S3 => Sat (chg (kSet k v) d S3) Q E) E) E) E := by simp only [eSetI_ap, Sat_bind]
@[simp] theorem W_app {o : Den} : Sat (eApp o f e S) Q E = Sat (o e S) (fun d S1 => Sat (f e S1) (fun v S2 => Sat (chg (kApp v) d S2) Q E) E) E := by simp only [eApp_ap, Sat_bind]
@[simp] theorem W_pop {o : Den} : Sat (ePop o e S) Q E = Sat (o e S) (fun d S1 => Sat (chg kPop d S1) Q E) E := by simp only [ePop_ap, Sat_bind]
@[simp] theorem W_popAt {o i : Den} : Sat (ePopAt o i e S) Q E = Sat (o e S) (fun d S1 => Sat (i e S1) (fun k S2 => Sat (chg (kPopAt k) d S2) Q E) E) E := by
  show Sat ((o e S).bind fun d S1 => (i e S1).bind fun k S2 => chg (kPopAt k) d S2) Q E = _
  simp only [Sat_bind]
@[simp] theorem W_ins {o i : Den} : Sat (eIns o i f e S) Q E = Sat (o e S) (fun d S1 => Sat (i e S1) (fun k S2 => Sat (f e S2) (fun v S3 => Sat (chg (kIns k v) d S3) Q E) E) E) E := by simp only [eIns_ap, Sat_bind]
@[simp] theorem W_augI {o i : Den} {k : Int → Int → Int} : Sat (eAugI o i k f e S) Q E = Sat (o e S) (fun d S1 => Sat (i e S1) (fun j S2 => Sat (augJ f k d j e S2) Q E) E) E := by
  show Sat ((o e S).bind fun d S1 => (i e S1).bind fun j S2 => augJ f k d j e S2) Q E = _
  simp only [Sat_bind]
def andK (a : D) (r : R D) (S : Store) : R D := match a with | .bl b => if b then r else .ok (.bl false) S | _ => .bad
def orK (a : D) (r : R D) (S : Store) : R D := match a with | .bl b => if b then .ok (.bl true) S else r | _ => .bad
@[simp] theorem andK_b {b : Bool} {r : R D} : andK (.bl b) r S = if b = true then r else .ok (.bl false) S := rfl
@[simp] theorem orK_b {b : Bool} {r : R D} : orK (.bl b) r S = if b = true then .ok (.bl true) S else r := rfl
@[simp] theorem W_and : Sat (eAnd f g e S) Q E = Sat (f e S) (fun a S1 => Sat (andK a (g e S1) S1) Q E) E := by
  have : eAnd f g e S = (f e S).bind fun a S1 => andK a (g e S1) S1 := by
    unfold eAnd; congr 1; funext a S1; unfold andK; cases a with
    | bl b => cases b <;> rfl
    | _ => rfl
  rw [this, Sat_bind]
@[simp] theorem W_or : Sat (eOr f g e S) Q E = Sat (f e S) (fun a S1 => Sat (orK a (g e S1) S1) Q E) E := by
  have : eOr f g e S = (f e S).bind fun a S1 => orK a (g e S1) S1 := by
    unfold eOr; congr 1; funext a S1; unfold orK; cases a with
    | bl b => cases b <;> rfl
    | _ => rfl
  rw [this, Sat_bind]
def notK (a : D) (S : Store) : R D := match a with | .bl b => .ok (.bl (!b)) S | _ => .bad
@[simp] theorem notK_b {b : Bool} : notK (.bl b) S = .ok (.bl (!b)) S := rfl
@[simp] theorem W_not : Sat (eNot f e S) Q E = Sat (f e S) (fun a S1 => Sat (notK a S1) Q E) E := by
  show Sat ((f e S).bind fun a S1 => notK a S1) Q E = _
  rw [Sat_bind]
def boolK (a : D) (S : Store) : R Bool := match a with | .bl b => .ok b S | _ => .bad
@[simp] theorem boolK_b {b : Bool} : boolK (.bl b) S = .ok b S := rfl
@[simp] theorem W_tval : Sat (tVal f e S) Qb E = Sat (f e S) (fun a S1 => Sat (boolK a S1) Qb E) E := by
  show Sat ((f e S).bind fun a S1 => boolK a S1) Qb E = _
  rw [Sat_bind]
@[simp] theorem W_tnot : Sat (tNot t e S) Qb E = Sat (t e S) (fun b S1 => Qb (!b) S1) E := by simp only [tNot_ap, Sat_bind, Sat_ok]
@[simp] theorem W_tand : Sat (tAnd t u e S) Qb E = Sat (t e S) (fun b S1 => Sat (if b = true then u e S1 else .ok false S1) Qb E) E := by simp only [tAnd_ap, Sat_bind]
@[simp] theorem W_tor : Sat (tOr t u e S) Qb E = Sat (t e S) (fun b S1 => Sat (if b = true then .ok true S1 else u e S1) Qb E) E := by simp only [tOr_ap, Sat_bind]
@[simp] theorem W_tyes : Sat (tYesD e S) Qb E = Qb true S := rfl
/-! operations -/
variable {a b : Int}
@[simp] theorem W_mul : Sat (oRep (.int a) (.int b) S) Q E = (mulOk a b = true ∧ Q (.int (a * b)) S) := by
  show Sat (if mulOk a b then .ok (.int (a * b)) S else .bad) Q E = _
  by_cases h : mulOk a b = true <;> simp [h]
@[simp] theorem W_mod : Sat (oMod (.int a) (.int b) S) Q E = (b ≠ 0 ∧ Q (.int (a.fmod b)) S) := by
  show Sat (if b ≠ 0 then .ok (.int (a.fmod b)) S else .bad) Q E = _
  by_cases h : b = 0 <;> simp [h]
@[simp] theorem W_fdiv : Sat (oFdiv (.int a) (.int b) S) Q E = (divOk b = true ∧ Q (.int (a.fdiv b)) S) := by
  show Sat (if divOk b then .ok (.int (a.fdiv b)) S else .bad) Q E = _
  by_cases h : divOk b = true <;> simp [h]
@[simp] theorem W_pow : Sat (oPow (.int a) (.int b) S) Q E = (powOk a b = true ∧ Q (.int (a ^ b.toNat)) S) := by
  show Sat (if powOk a b then .ok (.int (a ^ b.toNat)) S else .bad) Q E = _
  by_cases h : powOk a b = true <;> simp [h]
@[simp] theorem W_idxT {xs : List D} : Sat (oIdx (.tup xs) (.int a) S) Q E = ∃ v, L2.atI xs a = some v ∧ Q v S := by
  show Sat (match L2.atI xs a with | some v => .ok v S | none => .bad) Q E = _
  cases L2.atI xs a <;> simp
@[simp] theorem W_idxL {xs : List D} : Sat (oIdx (.lst xs) (.int a) S) Q E = ∃ v, L2.atI xs a = some v ∧ Q v S := by
  show Sat (match L2.atI xs a with | some v => .ok v S | none => .bad) Q E = _
  cases L2.atI xs a <;> simp
theorem W_idxR {p : Nat} : Sat (oIdx (.ref p) (.int a) S) Q E = ∃ xs v, S[p]? = some (.lst xs) ∧ L2.atI xs a = some v ∧ Q v S := by
  show Sat (match (asSq (.ref p) S).bind (L2.atI · a) with | some v => R.ok v S | none => .bad) Q E = _
  show Sat (match (match S[p]? with | some (.lst xs) => some xs | _ => none : Option (List D)).bind (L2.atI · a) with | some v => R.ok v S | none => .bad) Q E = _
  cases h : S[p]? with
  | none => simp
  | some o => cases o with
    | dead => simp
    | dct _ _ => simp
    | lst xs => simp; cases L2.atI xs a <;> simp
theorem W_chg {k : List D → Option (List D × D)} {p : Nat} : Sat (chg k (.ref p) S) Q E = ∃ xs ys r, S[p]? = some (.lst xs) ∧ k xs = some (ys, r) ∧ Q r (S.set p (.lst ys)) := by
  unfold chg
  dsimp only
  cases h : S[p]? with
  | none => simp
  | some o => cases o with
    | dead => simp
    | dct _ _ => simp
    | lst xs => dsimp only; cases h2 : k xs with
      | none => simp [h2]
      | some z => obtain ⟨ys, r⟩ := z; simp [h2]; exact ⟨fun h => ⟨_, _, ⟨rfl, rfl⟩, h⟩, fun ⟨_, _, ⟨a, b⟩, h⟩ => by subst a b; exact h⟩
end
/-! ### statements -/
/-- what is next, what is otherwise -/
def Sx (r : RS) (N : Env → Store → Prop) (O : RS → Prop) : Prop := match r with | .next e S => N e S | .bad => False | .ret d S => O (.ret d S) | .brk e S => O (.brk e S) | .cont e S => O (.cont e S) | .err c v e S => O (.err c v e S)
section
variable {f g h : Den} {gs hs : Dens} {e : Env} {S : Store} {t u : DenT} {F G : DenS} {Γ : Calls} {i j l : Nat} {N : Env → Store → Prop} {O : RS → Prop}
@[simp] theorem Sx_next : Sx (.next e S) N O = N e S := rfl
@[simp] theorem Sx_seq : Sx (sSeq F G e S) N O = Sx (F e S) (fun e1 S1 => Sx (G e1 S1) N O) O := by
  rw [sSeq_ap]; cases F e S <;> rfl
@[simp] theorem Sx_pass : Sx (sPass e S) N O = N e S := rfl
@[simp] theorem Sx_expr : Sx (sExpr f e S) N O = Sat (f e S) (fun _ S1 => N e S1) (fun c v S1 => O (.err c v e S1)) := by rw [sExpr_ap]; cases f e S <;> rfl
@[simp] theorem Sx_set : Sx (sSet i f e S) N O = Sat (f e S) (fun d S1 => N (e.set i (some d)) S1) (fun c v S1 => O (.err c v e S1)) := by rw [sSet_ap]; cases f e S <;> rfl
@[simp] theorem Sx_ret : Sx (sRet f e S) N O = Sat (f e S) (fun d S1 => O (.ret d S1)) (fun c v S1 => O (.err c v e S1)) := by rw [sRet_ap]; cases f e S <;> rfl
@[simp] theorem Sx_retN : Sx (sRetN e S) N O = O (.ret .non S) := rfl
@[simp] theorem Sx_brk : Sx (sBrk e S) N O = O (.brk e S) := rfl
@[simp] theorem Sx_cont : Sx (sCont e S) N O = O (.cont e S) := rfl
@[simp] theorem Sx_raise {c : Nat} : Sx (sRaise c f e S) N O = Sat (f e S) (fun d S1 => O (.err c d e S1)) (fun c v S1 => O (.err c v e S1)) := by rw [sRaise_ap]; cases f e S <;> rfl
@[simp] theorem Sx_if : Sx (sIf t F G e S) N O = Sat (t e S) (fun b S1 => Sx (if b = true then F e S1 else G e S1) N O) (fun c v S1 => O (.err c v e S1)) := by rw [sIf_ap]; cases t e S <;> rfl
@[simp] theorem Sx_ite {c : Prop} [Decidable c] {r r' : RS} : Sx (if c then r else r') N O = ((c → Sx r N O) ∧ (¬ c → Sx r' N O)) := by
  by_cases h : c <;> simp [h]
@[simp] theorem Sx_par : Sx (sPar i j f g e S) N O = Sat (f e S) (fun d S1 => Sat (g e S1) (fun d2 S2 => N ((e.set i (some d)).set j (some d2)) S2) (fun c v S1 => O (.err c v e S1))) (fun c v S1 => O (.err c v e S1)) := by
  rw [sPar_ap]; cases f e S with
  | ok d S1 => dsimp only [Sat_ok]; cases g e S1 <;> rfl
  | _ => rfl
@[simp] theorem Sx_par3 : Sx (sPar3 i j l f g h e S) N O = Sat (f e S) (fun d S1 => Sat (g e S1) (fun d2 S2 => Sat (h e S2) (fun d3 S3 => N (((e.set i (some d)).set j (some d2)).set l (some d3)) S3) (fun c v S1 => O (.err c v e S1))) (fun c v S1 => O (.err c v e S1))) (fun c v S1 => O (.err c v e S1)) := by
  unfold sPar3; cases f e S with
  | ok d S1 => dsimp only [Sat_ok]; cases g e S1 with
    | ok d2 S2 => dsimp only [Sat_ok]; cases h e S2 <;> rfl
    | _ => rfl
  | _ => rfl
@[simp] theorem Sx_asg {k : Tgt} : Sx (sAsg k f e S) N O = Sat (f e S) (fun d S1 => ∃ e1, k d e S1 = some e1 ∧ N e1 S1) (fun c v S1 => O (.err c v e S1)) := by
  rw [sAsg_ap]; cases f e S with
  | ok d S1 => dsimp only [Sat_ok]; cases k d e S1 <;> simp [Sx]
  | _ => rfl
@[simp] theorem Sx_for {gt : Tgt} {gi : DenI} : Sx (sFor gt gi F e S) N O = Sat (gi e S) (fun w S1 => Sx (forW gt F w.1 w.2 0 e S1) N O) (fun c v S1 => O (.err c v e S1)) := by
  unfold sFor; cases gi e S <;> rfl
def augK (i : Nat) (o : Int → Int → Int) (a : Option (Option D)) (b : D) (e : Env) (S : Store) : RS := match a, b with
  | some (some (.int a)), .int b => .next (e.set i (some (.int (o a b)))) S
  | _, _ => .bad
@[simp] theorem augK_i {o : Int → Int → Int} {a b : Int} : augK i o (some (some (.int a))) (.int b) e S = .next (e.set i (some (.int (o a b)))) S := rfl
theorem Sx_mono {r : RS} {N' : Env → Store → Prop} {O' : RS → Prop} (h : Sx r N O) (hn : ∀ e S, N e S → N' e S) (ho : ∀ r, O r → O' r) : Sx r N' O' := by
  cases r with
  | next e S => exact hn _ _ h
  | bad => exact h
  | _ => exact ho _ h
/-- where a body leads -/
def outK (Q : D → Store → Prop) (E : Nat → D → Store → Prop) : RS → Prop
  | .ret d S => Q d S | .err c v _ S => E c v S | _ => False
section
variable {Q : D → Store → Prop} {E : Nat → D → Store → Prop}
@[simp] theorem outK_ret {d : D} : outK Q E (.ret d S) = Q d S := rfl
@[simp] theorem outK_err {c : Nat} {v : D} : outK Q E (.err c v e S) = E c v S := rfl
@[simp] theorem outK_brk : outK Q E (.brk e S) = False := rfl
@[simp] theorem outK_cont : outK Q E (.cont e S) = False := rfl
theorem Sat_body {n : Nat} {args : List D} : Sat (runBody F n args S) Q E = Sx (F (args.map some ++ List.replicate (n - args.length) none) S) (fun _ S1 => Q .non S1) (outK Q E) := by
  unfold runBody; cases F (args.map some ++ List.replicate (n - args.length) none) S <;> rfl
/-- .. of a def that is tidied: what it lays down is let go -/
theorem tidy_body {n : Nat} {args : List D} {d : D} (h : Sat (runBody F n args S) (fun d' S' => d' = d ∧ noRef d = true ∧ ∃ T, S' = S ++ T) (fun _ _ _ => False)) : tidy S (runBody F n args S) = .ok d S := by
  cases q : runBody F n args S with
  | ok a S' =>
    rw [q] at h
    obtain ⟨rfl, hn, T, rfl⟩ := h
    exact tidy_no hn
  | err c v S' => rw [q] at h; exact h.elim
  | bad => rw [q] at h; exact h.elim
theorem tidy_bodyE {n : Nat} {args : List D} {c : Nat} {d : D} (h : Sat (runBody F n args S) (fun _ _ => False) (fun c' d' S' => c' = c ∧ d' = d ∧ noRef d = true ∧ ∃ T, S' = S ++ T)) : tidy S (runBody F n args S) = .err c d S := by
  cases q : runBody F n args S with
  | err c' a S' =>
    rw [q] at h
    obtain ⟨rfl, rfl, hn, T, rfl⟩ := h
    exact tidy_noErr hn
  | ok v S' => rw [q] at h; exact h.elim
  | bad => rw [q] at h; exact h.elim
end
/-! loops -/
def loopK (I N : Env → Store → Prop) (O : RS → Prop) : RS → Prop
  | .cont e S => I e S | .brk e S => N e S | .ret d S => O (.ret d S) | .err c v e S => O (.err c v e S) | _ => False
section
variable {I : Env → Store → Prop}
@[simp] theorem loopK_ret {d : D} : loopK I N O (.ret d S) = O (.ret d S) := rfl
@[simp] theorem loopK_err {c : Nat} {v : D} : loopK I N O (.err c v e S) = O (.err c v e S) := rfl
@[simp] theorem loopK_brk : loopK I N O (.brk e S) = N e S := rfl
@[simp] theorem loopK_cont : loopK I N O (.cont e S) = I e S := rfl
end
theorem forL_wp {gt : Tgt} {xs : List D} (I : Nat → Env → Store → Prop)
    (step : ∀ i x e S, xs[i]? = some x → I i e S → ∃ e1, gt x e S = some e1 ∧ Sx (F e1 S) (I (i + 1)) (loopK (I (i + 1)) N O))
    (fin : ∀ e S, I xs.length e S → N e S) : ∀ (f i : Nat), i + f = xs.length → ∀ e S, I i e S → Sx (forW gt F (wkL xs) f i e S) N O
  | 0, i, hi, e, S, h => by
    have hn : xs[i]? = none := List.getElem?_eq_none (by omega)
    unfold forW
    simp only [wkL, hn]
    exact fin e S (by have : i = xs.length := by omega
                      rw [← this]; exact h)
  | f + 1, i, hi, e, S, h => by
    have hl : i < xs.length := by omega
    have hx : xs[i]? = some xs[i] := List.getElem?_eq_getElem hl
    obtain ⟨e1, hg, hb⟩ := step i _ e S hx h
    unfold forW
    simp only [wkL, hx, hg]
    cases q : F e1 S with
    | next e2 S2 => rw [q] at hb; exact forL_wp I step fin f (i + 1) (by omega) _ _ hb
    | cont e2 S2 => rw [q] at hb; exact forL_wp I step fin f (i + 1) (by omega) _ _ hb
    | brk e2 S2 => rw [q] at hb; exact hb
    | ret d S2 => rw [q] at hb; exact hb
    | err c v e2 S2 => rw [q] at hb; exact hb
    | bad => rw [q] at hb; exact hb.elim
theorem Sx_forL {gt : Tgt} {xs : List D} (I : Nat → Env → Store → Prop) (h0 : I 0 e S)
    (step : ∀ i x e S, xs[i]? = some x → I i e S → ∃ e1, gt x e S = some e1 ∧ Sx (F e1 S) (I (i + 1)) (loopK (I (i + 1)) N O))
    (fin : ∀ e S, I xs.length e S → N e S) : Sx (forW gt F (wkL xs) xs.length 0 e S) N O := forL_wp I step fin xs.length 0 (by omega) e S h0
/-- for k in range(n) -/
theorem Sx_rng {k : Nat} {m : Int} (n : Nat) (hn : m.toNat = n) (I : Nat → Env → Store → Prop) (h0 : I 0 e S)
    (step : ∀ i e S, i < n → I i e S → Sx (F (e.set k (some (.int (i : Nat)))) S) (I (i + 1)) (loopK (I (i + 1)) N O))
    (fin : ∀ e S, I n e S → N e S) : Sx (forW (gNm k) F (wkL (intsD 0 m.toNat)) (intsD 0 m.toNat).length 0 e S) N O := by
  refine Sx_forL I h0 (fun i x e S hx h => ?_) (fun e S h => ?_)
  · obtain ⟨hi, rfl⟩ := intsD_at hx
    rw [Int.zero_add]
    exact ⟨_, rfl, step i e S (by omega) h⟩
  · rw [intsD_length, hn] at h
    exact fin e S h
/-- for k in range(a, b) -/
theorem Sx_rng2 {k : Nat} {a m : Int} (n : Nat) (hn : m.toNat = n) (I : Nat → Env → Store → Prop) (h0 : I 0 e S)
    (step : ∀ i e S, i < n → I i e S → Sx (F (e.set k (some (.int (a + (i : Nat))))) S) (I (i + 1)) (loopK (I (i + 1)) N O))
    (fin : ∀ e S, I n e S → N e S) : Sx (forW (gNm k) F (wkL (intsD a m.toNat)) (intsD a m.toNat).length 0 e S) N O := by
  refine Sx_forL I h0 (fun i x e S hx h => ?_) (fun e S h => ?_)
  · obtain ⟨hi, rfl⟩ := intsD_at hx
    exact ⟨_, rfl, step i e S (by omega) h⟩
  · rw [intsD_length, hn] at h
    exact fin e S h
/-- a list of the store that stays as it is -/
theorem Sx_forR {gt : Tgt} {xs : List D} {p : Nat} (I : Nat → Env → Store → Prop) (h0 : I 0 e S) (hS : ∀ i e S, I i e S → S[p]? = some (.lst xs))
    (step : ∀ i x e S, xs[i]? = some x → I i e S → ∃ e1, gt x e S = some e1 ∧ Sx (F e1 S) (I (i + 1)) (loopK (I (i + 1)) N O))
    (fin : ∀ e S, I xs.length e S → N e S) : Sx (forW gt F (wkR p) xs.length 0 e S) N O := by
  have go : ∀ (f i : Nat), i + f = xs.length → ∀ e S, I i e S → Sx (forW gt F (wkR p) f i e S) N O := by
    intro f
    induction f with
    | zero =>
      intro i hi e S h
      have hs := hS i e S h
      have hn : xs[i]? = none := List.getElem?_eq_none (by omega)
      unfold forW
      simp only [wkR, hs, hn]
      exact fin e S (by have : i = xs.length := by omega
                        rw [← this]; exact h)
    | succ f ih =>
      intro i hi e S h
      have hs := hS i e S h
      have hl : i < xs.length := by omega
      have hx : xs[i]? = some xs[i] := List.getElem?_eq_getElem hl
      obtain ⟨e1, hg, hb⟩ := step i _ e S hx h
      unfold forW
      simp only [wkR, hs, hx, hg]
      cases q : F e1 S with
      | next e2 S2 => rw [q] at hb; exact ih (i + 1) (by omega) _ _ hb
      | cont e2 S2 => rw [q] at hb; exact ih (i + 1) (by omega) _ _ hb
      | brk e2 S2 => rw [q] at hb; exact hb
      | ret d S2 => rw [q] at hb; exact hb
      | err c v e2 S2 => rw [q] at hb; exact hb
      | bad => rw [q] at hb; exact hb.elim
  exact go xs.length 0 (by omega) e S h0
/-- while: by a measure -/
theorem Sx_while (I : Nat → Env → Store → Prop) (n : Nat) (h0 : I n e S)
    (step : ∀ m e S, I m e S → Sat (t e S) (fun b S1 => if b = true then Sx (F e S1) (fun e2 S2 => ∃ m', m' < m ∧ I m' e2 S2) (loopK (fun e2 S2 => ∃ m', m' < m ∧ I m' e2 S2) N O) else N e S1) (fun c v S1 => O (.err c v e S1))) :
    Sx (sWhile t F e S) N O := by
  induction n using Nat.strongRecOn generalizing e S with
  | ind n ih =>
    have st := step n e S h0
    rw [sWhile_eq]
    cases ht : t e S with
    | bad => rw [ht] at st; exact st.elim
    | err c v S1 => rw [ht] at st; exact st
    | ok b S1 =>
      rw [ht] at st
      cases b with
      | false => exact st
      | true =>
        have st2 : Sx (F e S1) (fun e2 S2 => ∃ m', m' < n ∧ I m' e2 S2) (loopK (fun e2 S2 => ∃ m', m' < n ∧ I m' e2 S2) N O) := st
        dsimp only
        cases q : F e S1 with
        | next e2 S2 => rw [q] at st2; obtain ⟨m', hm, hI⟩ := st2; exact ih m' hm hI
        | cont e2 S2 => rw [q] at st2; obtain ⟨m', hm, hI⟩ := st2; exact ih m' hm hI
        | brk e2 S2 => rw [q] at st2; exact st2
        | ret d S2 => rw [q] at st2; exact st2
        | err c v e2 S2 => rw [q] at st2; exact st2
        | bad => rw [q] at st2; exact st2.elim
end
/-! what is walked -/
section
variable {f g : Den} {e : Env} {S : Store} {E : Nat → D → Store → Prop} {Q : Walk × Nat → Store → Prop} {a b : Int}
def rngK (d : D) (S : Store) : R (Walk × Nat) := match d with | .int j => if inR j then .ok (wkL (intsD 0 j.toNat), (intsD 0 j.toNat).length) S else .bad | _ => .bad
@[simp] theorem W_rng1 : Sat (dRng1 f e S) Q E = Sat (f e S) (fun d S1 => Sat (rngK d S1) Q E) E := by
  show Sat ((f e S).bind fun d S1 => rngK d S1) Q E = _
  rw [Sat_bind]
@[simp] theorem rngK_i : Sat (rngK (.int a) S) Q E = (inR a = true ∧ Q (wkL (intsD 0 a.toNat), (intsD 0 a.toNat).length) S) := by
  show Sat (if inR a then .ok (wkL (intsD 0 a.toNat), (intsD 0 a.toNat).length) S else .bad) Q E = _
  by_cases h : inR a = true <;> simp [h]
def rngK2 (d d2 : D) (S : Store) : R (Walk × Nat) := match d, d2 with | .int i, .int j => if inR i && inR j then .ok (wkL (intsD i (j - i).toNat), (intsD i (j - i).toNat).length) S else .bad | _, _ => .bad
@[simp] theorem W_rng2 : Sat (dRng2 f g e S) Q E = Sat (f e S) (fun d S1 => Sat (g e S1) (fun d2 S2 => Sat (rngK2 d d2 S2) Q E) E) E := by
  show Sat ((f e S).bind fun d S1 => (g e S1).bind fun d2 S2 => rngK2 d d2 S2) Q E = _
  simp only [Sat_bind]
@[simp] theorem rngK2_i : Sat (rngK2 (.int a) (.int b) S) Q E = ((inR a = true ∧ inR b = true) ∧ Q (wkL (intsD a (b - a).toNat), (intsD a (b - a).toNat).length) S) := by
  show Sat (if inR a && inR b then .ok (wkL (intsD a (b - a).toNat), (intsD a (b - a).toNat).length) S else .bad) Q E = _
  by_cases h : (inR a && inR b) = true
  · simp [h]; exact fun _ => by simpa using h
  · simp [h]; intro h1 h2; simp [h1, h2] at h
def seqK (d : D) (S1 : Store) : R (Walk × Nat) := match d with
  | .tup xs => .ok (wkL xs, xs.length) S1
  | .lst xs => .ok (wkL xs, xs.length) S1
  | .fls is => .ok (wkL (is.map .int), is.length) S1
  | .ref n => (match S1[n]? with | some (.lst xs) => .ok (wkR n, xs.length) S1 | _ => .bad)
  | _ => .bad
@[simp] theorem W_seq : Sat (dSeq f e S) Q E = Sat (f e S) (fun d S1 => Sat (seqK d S1) Q E) E := by
  show Sat ((f e S).bind fun d S1 => seqK d S1) Q E = _
  rw [Sat_bind]
@[simp] theorem seqK_t {xs : List D} : seqK (.tup xs) S = .ok (wkL xs, xs.length) S := rfl
@[simp] theorem seqK_l {xs : List D} : seqK (.lst xs) S = .ok (wkL xs, xs.length) S := rfl
theorem wkE_P {xs : List D} : wkE (wkL xs) = wkL (enumP xs) := wkE_L xs
def enumK (d : D) (S1 : Store) : R (Walk × Nat) := optR (lsA d S1) fun w => .ok (wkE w.1, w.2) S1
@[simp] theorem W_enumA : Sat (dEnumA f e S) Q E = Sat (f e S) (fun d S1 => Sat (enumK d S1) Q E) E := by
  show Sat ((f e S).bind fun d S1 => enumK d S1) Q E = _
  rw [Sat_bind]
@[simp] theorem enumK_t {xs : List D} : enumK (.tup xs) S = .ok (wkL (enumP xs), (enumP xs).length) S := by
  show R.ok (wkE (wkL xs), xs.length) S = _
  rw [wkE_P]; unfold enumP; rw [List.length_mapIdx]
@[simp] theorem enumK_l {xs : List D} : enumK (.lst xs) S = .ok (wkL (enumP xs), (enumP xs).length) S := by
  show R.ok (wkE (wkL xs), xs.length) S = _
  rw [wkE_P]; unfold enumP; rw [List.length_mapIdx]
@[simp] theorem W_zip2 : Sat (dZip2 f g e S) Q E = Sat (f e S) (fun d S1 => Sat (g e S1) (fun d2 S2 => Sat (optR (zipW d d2 S2) fun w => .ok w S2) Q E) E) E := by
  show Sat ((f e S).bind fun a S1 => (g e S1).bind fun b S2 => optR (zipW a b S2) fun w => .ok w S2) Q E = _
  simp only [Sat_bind]
end
theorem inR_nat {n : Nat} (h : n < 1000000000) : inR (n : Int) = true := by
  unfold inR
  rw [Bool.and_eq_true]
  exact ⟨decide_eq_true (by omega), decide_eq_true (by omega)⟩
theorem inR_of {a : Int} (h : -1000000000 < a) (h2 : a < 1000000000) : inR a = true := by
  unfold inR
  rw [Bool.and_eq_true]
  exact ⟨decide_eq_true (by omega), decide_eq_true (by omega)⟩
theorem lt_1000 {a : Int} {j : Nat} (ha : a.natAbs ≤ 2 ^ j) (h : j < 1000) : a.natAbs < 2 ^ 1000 := Nat.lt_of_le_of_lt ha (Nat.pow_lt_pow_right (by decide) h)
theorem mulB {a b : Int} {j k : Nat} (ha : a.natAbs ≤ 2 ^ j) (hb : b.natAbs ≤ 2 ^ k) (h : j < 1000) (h' : k < 1000) : mulOk a b = true := mulOk_small (lt_1000 ha h) (lt_1000 hb h')
/-! ### a comprehension that may draw -/
theorem tidy_lst {S S' : Store} {acc : List D} (hl : S'.length = S.length + 1) (hS : S'[S.length]? = some (.lst acc)) (hn : noRefL acc = true) (hO : Old S S') : tidy S (.ok (.ref S.length) S') = .ok (.lst acc) (S'.take S.length) := by
  have hr : res S.length S' (.ref S.length) = some (.lst acc) := by
    unfold res mapR resN
    rw [if_neg (Nat.lt_irrefl _), hS]
    dsimp only
    rw [mapRL_no hn]
    rfl
  unfold tidy
  simp only [if_neg (show ¬ S'.length ≤ S.length by omega), hr, if_pos hO]
theorem lcW_wp {gt : Tgt} {t : DenT} {f : Den} {e0 : Env} {n0 : Nat} {xs : List D} {E : Nat → D → Store → Prop} {N : Store → Prop} (I : Nat → List D → Store → Prop)
    (step : ∀ i x acc S, xs[i]? = some x → I i acc S → ∃ e1, gt x e0 S = some e1 ∧ Sat (t e1 S) (fun b S1 => if b = true then Sat (f e1 S1) (fun d S2 => S2[n0]? = some (.lst acc) ∧ acc.length < sizeLine ∧ I (i + 1) (acc ++ [d]) (S2.set n0 (.lst (acc ++ [d])))) (fun _ _ _ => False) else I (i + 1) acc S1) (fun _ _ _ => False))
    (fin : ∀ acc S, I xs.length acc S → N S) : ∀ (k i : Nat), i + k = xs.length → ∀ acc S, I i acc S → Sat (lcW gt t f (wkL xs) e0 n0 k i S) (fun _ S' => N S') E
  | 0, i, hi, acc, S, h => by
    have hn : xs[i]? = none := List.getElem?_eq_none (by omega)
    unfold lcW
    simp only [wkL, hn]
    exact fin acc S (by have : i = xs.length := by omega
                        rw [← this]; exact h)
  | k + 1, i, hi, acc, S, h => by
    have hl : i < xs.length := by omega
    have hx : xs[i]? = some xs[i] := List.getElem?_eq_getElem hl
    obtain ⟨e1, hg, hb⟩ := step i _ acc S hx h
    unfold lcW
    simp only [wkL, hx, hg]
    cases q : t e1 S with
    | bad => rw [q] at hb; exact hb.elim
    | err c v S1 => rw [q] at hb; exact hb.elim
    | ok b S1 =>
      rw [q] at hb
      cases b with
      | false => exact lcW_wp I step fin k (i + 1) (by omega) acc S1 hb
      | true =>
        dsimp only
        have hb2 : Sat (f e1 S1) (fun d S2 => S2[n0]? = some (.lst acc) ∧ acc.length < sizeLine ∧ I (i + 1) (acc ++ [d]) (S2.set n0 (.lst (acc ++ [d])))) (fun _ _ _ => False) := hb
        cases q2 : f e1 S1 with
        | bad => rw [q2] at hb2; exact hb2.elim
        | err c v S2 => rw [q2] at hb2; exact hb2.elim
        | ok d S2 =>
          rw [q2] at hb2
          obtain ⟨h1, h2, h3⟩ := hb2
          dsimp only
          rw [h1]
          dsimp only
          rw [if_pos h2]
          exact lcW_wp I step fin k (i + 1) (by omega) _ _ h3
/-- the row is a value at its end -/
theorem Sat_lc {vs : List Nat} {gi : DenI} {gt : Tgt} {t : DenT} {f : Den} {e : Env} {S S1 : Store} {xs : List D} {E : Nat → D → Store → Prop} {Q : D → Store → Prop} (hgi : gi e S = .ok (wkL xs, xs.length) S1)
    (I : Nat → List D → Store → Prop) (h0 : I 0 [] (S1 ++ [.lst []]))
    (step : ∀ i x acc S, xs[i]? = some x → I i acc S → ∃ e1, gt x (wipeE e vs) S = some e1 ∧ Sat (t e1 S) (fun b S2 => if b = true then Sat (f e1 S2) (fun d S3 => S3[S1.length]? = some (.lst acc) ∧ acc.length < sizeLine ∧ I (i + 1) (acc ++ [d]) (S3.set S1.length (.lst (acc ++ [d])))) (fun _ _ _ => False) else I (i + 1) acc S2) (fun _ _ _ => False))
    (fin : ∀ acc S', I xs.length acc S' → S'.length = S1.length + 1 ∧ S'[S1.length]? = some (.lst acc) ∧ noRefL acc = true ∧ Old S1 S' ∧ Q (.lst acc) (S'.take S1.length)) : Sat (eLc vs gi gt t f e S) Q E := by
  unfold eLc
  rw [hgi]
  show Sat (tidy S1 ((lcW gt t f (wkL xs) (wipeE e vs) S1.length xs.length 0 (S1 ++ [.lst []])).bind fun _ S2 => .ok (.ref S1.length) S2)) Q E
  have h := lcW_wp (E := fun _ _ _ => False) (N := fun S' => ∃ acc, S'.length = S1.length + 1 ∧ S'[S1.length]? = some (.lst acc) ∧ noRefL acc = true ∧ Old S1 S' ∧ Q (.lst acc) (S'.take S1.length)) I step (fun acc S' h => ⟨acc, fin acc S' h⟩) xs.length 0 (by omega) [] _ h0
  cases q : lcW gt t f (wkL xs) (wipeE e vs) S1.length xs.length 0 (S1 ++ [.lst []]) with
  | bad => rw [q] at h; exact h.elim
  | err c v S2 => rw [q] at h; exact h.elim
  | ok u S2 =>
    rw [q] at h
    obtain ⟨acc, h1, h2, h3, h4, h5⟩ := h
    show Sat (tidy S1 (.ok (.ref S1.length) S2)) Q E
    rw [tidy_lst h1 h2 h3 h4]
    exact h5

noncomputable def lcK (vs : List Nat) (gt : Tgt) (t : DenT) (f : Den) (e : Env) (w : Walk × Nat) (S1 : Store) : R D :=
  tidy S1 ((lcW gt t f w.1 (wipeE e vs) S1.length w.2 0 (S1 ++ [.lst []])).bind fun _ S2 => .ok (.ref S1.length) S2)
theorem W_lc {vs : List Nat} {gi : DenI} {gt : Tgt} {t : DenT} {f : Den} {e : Env} {S : Store} {E : Nat → D → Store → Prop} {Q : D → Store → Prop} :
    Sat (eLc vs gi gt t f e S) Q E = Sat (gi e S) (fun w S1 => Sat (lcK vs gt t f e w S1) Q E) E := by
  show Sat ((gi e S).bind fun w S1 => lcK vs gt t f e w S1) Q E = _
  rw [Sat_bind]
theorem Sat_lcK {vs : List Nat} {gt : Tgt} {t : DenT} {f : Den} {e : Env} {S1 : Store} {xs : List D} {E : Nat → D → Store → Prop} {Q : D → Store → Prop}
    (I : Nat → List D → Store → Prop) (h0 : I 0 [] (S1 ++ [.lst []]))
    (step : ∀ i x acc S, xs[i]? = some x → I i acc S → ∃ e1, gt x (wipeE e vs) S = some e1 ∧ Sat (t e1 S) (fun b S2 => if b = true then Sat (f e1 S2) (fun d S3 => S3[S1.length]? = some (.lst acc) ∧ acc.length < sizeLine ∧ I (i + 1) (acc ++ [d]) (S3.set S1.length (.lst (acc ++ [d])))) (fun _ _ _ => False) else I (i + 1) acc S2) (fun _ _ _ => False))
    (fin : ∀ acc S', I xs.length acc S' → S'.length = S1.length + 1 ∧ S'[S1.length]? = some (.lst acc) ∧ noRefL acc = true ∧ Old S1 S' ∧ Q (.lst acc) (S'.take S1.length)) : Sat (lcK vs gt t f e (wkL xs, xs.length) S1) Q E := by
  have := Sat_lc (vs := vs) (gi := fun _ S => .ok (wkL xs, xs.length) S) (gt := gt) (t := t) (f := f) (e := e) (S := S1) (E := E) (Q := Q) rfl I h0 step fin
  rw [W_lc] at this
  exact this
/-- .. that changes nothing: what each item becomes -/
theorem Sat_lcP {vs : List Nat} {gt : Tgt} {f : Den} {e : Env} {S1 : Store} {xs : List D} {E : Nat → D → Store → Prop} {Q : D → Store → Prop} (φ : D → D)
    (hs : ∀ x ∈ xs, ∀ S', (∃ T, S' = S1 ++ T) → ∃ e1, gt x (wipeE e vs) S' = some e1 ∧ Sat (f e1 S') (fun d S2 => d = φ x ∧ S2 = S') (fun _ _ _ => False)) (hn : ∀ x ∈ xs, noRef (φ x) = true) (hl : xs.length ≤ sizeLine)
    (fin : Q (.lst (xs.map φ)) S1) : Sat (lcK vs gt tYesD f e (wkL xs, xs.length) S1) Q E := by
  refine Sat_lcK (fun i acc S' => acc = (xs.take i).map φ ∧ S' = S1 ++ [.lst acc]) ⟨rfl, rfl⟩ ?_ ?_
  · rintro i x acc S' hx ⟨rfl, rfl⟩
    have hi := (List.getElem?_eq_some_iff.mp hx).1
    have hxi := (List.getElem?_eq_some_iff.mp hx).2
    obtain ⟨e1, h1, h2⟩ := hs x (by rw [← hxi]; exact List.getElem_mem hi) (S1 ++ [.lst ((xs.take i).map φ)]) ⟨_, rfl⟩
    refine ⟨e1, h1, ?_⟩
    show Sat (f e1 _) _ _
    refine Sat_use0 h2 ?_
    rintro d S2 ⟨rfl, rfl⟩
    refine ⟨by rw [List.getElem?_append_right (Nat.le_refl _), Nat.sub_self]; rfl, by rw [List.length_map, List.length_take]; omega, ?_, ?_⟩
    · rw [List.take_succ_eq_append_getElem hi, List.map_append, hxi]; rfl
    · rw [List.set_append_right _ _ (Nat.le_refl _), Nat.sub_self]; rfl
  · rintro acc S' ⟨rfl, rfl⟩
    rw [List.take_length]
    refine ⟨by rw [List.length_append]; rfl, by rw [List.getElem?_append_right (Nat.le_refl _), Nat.sub_self]; rfl, noRefL_map hn, Old.refl _ _, ?_⟩
    rw [List.take_left]
    exact fin
theorem noRefL_ints {l : List Int} : noRefL (l.map D.int) = true := noRefL_pure (pure_ints l)
theorem Pot.old {S S' : Store} {p : Nat} (hP : Pot S' p) (h : ∀ k, k < S.length → k ≠ p → S'[k]? = S[k]?) : Old S S' := by
  intro k hk
  by_cases hkp : k = p
  · subst hkp
    obtain ⟨a, b, c, cs, g, _⟩ := hP
    exact .inr ⟨_, g, mapRL_no (noRefL_ints (l := a :: b :: c :: cs))⟩
  · exact .inl (h k hk hkp)
theorem Pot.take {S' : Store} {p m : Nat} (hP : Pot S' p) (h : p < m) : Pot (S'.take m) p := hP.same (by rw [List.getElem?_take_of_lt h])
theorem noRefL_app : ∀ {xs ys : List D}, noRefL xs = true → noRefL ys = true → noRefL (xs ++ ys) = true
  | [], _, _, h => h
  | x :: xs, ys, h1, h2 => by
    unfold noRefL at h1
    rw [Bool.and_eq_true] at h1
    rw [List.cons_append]
    unfold noRefL
    rw [h1.1, noRefL_app h1.2 h2]
    rfl
/-- .. whose items are drawn -/
theorem Sat_draw {vs : List Nat} {gt : Tgt} {f : Den} {e : Env} {S1 : Store} {xs : List D} {p : Nat} {E : Nat → D → Store → Prop} {Q : D → Store → Prop} (R : Nat → D → D → Prop) (hP : Pot S1 p)
    (step : ∀ i x S, xs[i]? = some x → Pot S p → ∃ e1, gt x (wipeE e vs) S = some e1 ∧ Sat (f e1 S) (fun d S' => Pot S' p ∧ Fr1 S S' p ∧ noRef d = true ∧ R i x d) (fun _ _ _ => False))
    (hl : xs.length ≤ sizeLine)
    (fin : ∀ ds S', ds.length = xs.length → (∀ i x d, xs[i]? = some x → ds[i]? = some d → R i x d) → noRefL ds = true → Pot S' p → Fr1 S1 S' p → Q (.lst ds) S') : Sat (lcK vs gt tYesD f e (wkL xs, xs.length) S1) Q E := by
  have hp := hP.lt
  refine Sat_lcK (fun i acc S' => acc.length = i ∧ i ≤ xs.length ∧ (∀ j x d, xs[j]? = some x → acc[j]? = some d → R j x d) ∧ noRefL acc = true ∧ Pot S' p ∧ S'.length = S1.length + 1 ∧ S'[S1.length]? = some (.lst acc) ∧ ∀ k, k < S1.length → k ≠ p → S'[k]? = S1[k]?) ⟨rfl, Nat.zero_le _, fun j x d _ h => (by cases h), rfl, hP.app, by rw [List.length_append]; rfl, by rw [List.getElem?_append_right (Nat.le_refl _), Nat.sub_self]; rfl, fun k hk _ => List.getElem?_append_left hk⟩ ?_ ?_
  · rintro i x acc S' hx ⟨h1, h1', h2, h3, h4, h5, h6, h7⟩
    have hi := (List.getElem?_eq_some_iff.mp hx).1
    obtain ⟨e1, g1, g2⟩ := step i x S' hx h4
    refine ⟨e1, g1, ?_⟩
    show Sat (f e1 _) _ _
    refine Sat_use0 g2 ?_
    rintro d S2 ⟨P2, F2, nd, hR⟩
    have q6 : S2[S1.length]? = some (.lst acc) := (F2.2 _ (by omega)).trans h6
    have hlen : S2.length = S1.length + 1 := F2.1.trans h5
    refine ⟨q6, by omega, by rw [List.length_append, List.length_singleton]; omega, by omega, ?_, noRefL_app h3 (by unfold noRefL; rw [nd]; rfl), P2.same (List.getElem?_set_ne (by omega)), by rw [List.length_set]; exact hlen, List.getElem?_set_self (by omega), fun k hk hkp => ?_⟩
    · intro j x' d' hj hd
      by_cases hji : j < i
      · rw [List.getElem?_append_left (by omega)] at hd
        exact h2 j x' d' hj hd
      · by_cases hj2 : j = i
        · subst hj2
          rw [List.getElem?_append_right (by omega), h1, Nat.sub_self] at hd
          cases hd
          rw [hx] at hj
          cases hj
          exact hR
        · rw [List.getElem?_eq_none (by rw [List.length_append, List.length_singleton]; omega)] at hd
          cases hd
    · rw [List.getElem?_set_ne (by omega), F2.2 k hkp, h7 k hk hkp]
  · rintro acc S' ⟨h1, h1', h2, h3, h4, h5, h6, h7⟩
    refine ⟨h5, h6, h3, h4.old h7, fin acc _ h1 h2 h3 (h4.take hp) ⟨by rw [List.length_take]; omega, fun k hk => ?_⟩⟩
    by_cases hkl : k < S1.length
    · rw [List.getElem?_take_of_lt hkl, h7 k hkl hk]
    · rw [List.getElem?_eq_none (by rw [List.length_take]; omega), List.getElem?_eq_none (by omega)]
/-- _law_take -/
def Tk (Γ : Calls) (i : Nat) : Prop := ∀ {S : Store} {p : Nat} {m : Int}, Pot S p → 0 < m → m.natAbs < 2 ^ 1000 → Sat (Γ i [.ref p, .int m] S) (fun d S' => ∃ v : Int, d = .int v ∧ 0 ≤ v ∧ v < m ∧ Pot S' p ∧ Fr1 S S' p) (fun _ _ _ => False)
theorem tk_of {Γ : Calls} {i : Nat} (h : ∀ args S, Γ i args S = tidy S (runBody takeD 5 args S)) : Tk Γ i := fun {S p m} hP h0 h1 => by
  obtain ⟨v, S', hr, v0, v1, P', F'⟩ := take_body hP h0 h1
  rw [h, hr, tidy_same F'.1]
  exact ⟨v, rfl, v0, v1, P', F'⟩
theorem Sat_tidy {r : R D} {S : Store} {Q : D → Store → Prop} {E : Nat → D → Store → Prop} (h : Sat r (fun d S' => S'.length = S.length ∧ Q d S') (fun _ _ _ => False)) : Sat (tidy S r) Q E := by
  cases r with
  | ok a S' => obtain ⟨h1, h2⟩ := h; rw [tidy_same h1]; exact h2
  | err c v S' => exact h.elim
  | bad => exact h.elim

/-! try -/
section
variable {e : Env} {S : Store} {F G : DenS} {N : Env → Store → Prop} {O : RS → Prop} {m : Nat → Option Bool} {i : Option Nat}
def offK (i : Option Nat) (O : RS → Prop) : RS → Prop
  | .ret d S => O (.ret d S) | .brk e S => O (.brk (putO i none e) S) | .cont e S => O (.cont (putO i none e) S) | _ => False
def tryK (m : Nat → Option Bool) (i : Option Nat) (G : DenS) (N : Env → Store → Prop) (O : RS → Prop) : RS → Prop
  | .err c v e1 S1 => (match m c with
    | some true => Sx (G (putO i (some (.exc c v)) e1) S1) (fun e2 S2 => N (putO i none e2) S2) (offK i O)
    | some false => O (.err c v e1 S1)
    | none => False)
  | .ret d S => O (.ret d S) | .brk e S => O (.brk e S) | .cont e S => O (.cont e S) | _ => False
theorem Sx_try : Sx (sTry m i F G e S) N O = Sx (F e S) N (tryK m i G N O) := by
  unfold sTry
  cases F e S with
  | err c v e1 S1 =>
    show _ = tryK m i G N O (.err c v e1 S1)
    cases hm : m c with
    | none => simp only [hm, tryK]; rfl
    | some b =>
      cases b with
      | false => simp only [hm, tryK]; rfl
      | true =>
        simp only [hm, tryK]
        cases G (putO i (some (.exc c v)) e1) S1 <;> rfl
  | _ => rfl
theorem tryK_ret {d : D} : tryK m i G N O (.ret d S) = O (.ret d S) := rfl
theorem tryK_brk : tryK m i G N O (.brk e S) = O (.brk e S) := rfl
theorem tryK_cont : tryK m i G N O (.cont e S) = O (.cont e S) := rfl
theorem tryK_err {c : Nat} {v : D} (h : m c = some true) : tryK m i G N O (.err c v e S) = Sx (G (putO i (some (.exc c v)) e) S) (fun e2 S2 => N (putO i none e2) S2) (offK i O) := by
  simp only [tryK, h]
theorem tryK_pass {c : Nat} {v : D} (h : m c = some false) : tryK m i G N O (.err c v e S) = O (.err c v e S) := by
  simp only [tryK, h]
theorem offK_ret {d : D} : offK i O (.ret d S) = O (.ret d S) := rfl
theorem offK_brk : offK i O (.brk e S) = O (.brk (putO i none e) S) := rfl
theorem offK_cont : offK i O (.cont e S) = O (.cont (putO i none e) S) := rfl
end
end Py

set_option maxHeartbeats 4000000
/-! PyKw: raise C(value = e): an own exception made by a call with one keyword. -/
namespace Py
open PySem PySem.Spec PyProof.Rows L2 PySem.HandSPX Builtin Builtin.ObjectAttr
section
variable {bs bm bmB sub : List Value} {C N fI : Addr} {nm q : Str} {sn : List Str} {hdct ab : Bool} {dd : Option Addr} {col : Option Bool} {k0 k1 k2 k3 k5 : Option Value} {B nw ini : String}
variable {h : Heap} {g : Array GenState} {d : Drawn} {t : Nat} {os : OsState} {A : Around} {Ex : Value → Shared → Prop} {R : Result → Shared → Prop} {kn : Str} {kv : Value}
/-- what stands in the heap of the class -/
abbrev ClsAt (h : Heap) (nm q : Str) (C N : Addr) (bs bm : List Value) (hdct : Bool) (sn : List Str) (sub : List Value) (ab : Bool) (col : Option Bool) (dd : Option Addr) (k0 k1 k2 k3 k5 : Option Value) (nw : String) : Prop :=
  h.get? C = some (excClassObj nm q C N bs bm hdct sn sub ab col dd k0 k1 k2 k3 k5 nw)
theorem kw_check {M : Model} {Q : Unit → Shared → Prop} (F : ExcBaseFacts B nw ini bmB) (hT : ∀ X : String, bm.contains (.type X) = bmB.contains (.type X))
    (hC : ClsAt h nm q C N bs bm hdct sn sub ab col dd k0 k1 k2 k3 k5 nw) (hq : Q () ⟨h, g, d, t, os⟩) :
    wpAny M A (checkBuiltinCall nw ⟨[.ref C], [(kn, kv)]⟩) Q Ex ⟨h, g, d, t, os⟩ := by
  have inB : (Value.ref C :: bm).contains (.type B) = true := by
    rw [List.contains_cons, hT, F.hasB, Bool.or_true]
  have star := F.noStar
  simp only [checkBuiltinCall, F.newSplit, F.newKind, F.newRow]
  repeat (first
    | refine wpAny_loadPart_at hC ?_
    | (refine wpAny_isSubtype_exc hC ?_
       rw [inB])
    | refine wpAny_staticBase_exc hC ?_
    | refine wpAny_madeBy_exc hC ?_
    | simp only [bne_self_eq_false, if_false, Bool.false_eq_true]
    | wp_step)
  exact hq
variable {prog : Program} {w : World}
theorem kw_new (F : ExcBaseFacts B nw ini bmB) (hT : ∀ X : String, bm.contains (.type X) = bmB.contains (.type X))
    (hC : ClsAt h nm q C N bs bm hdct sn sub ab col dd k0 k1 k2 k3 k5 nw)
    (hq : R (.ok (.ret (.ref (h.objs.size + 1)))) ⟨(h.push (PySem.W.kdv_tup [])).push (excO C h.objs.size), g, d, t, os⟩) :
    codeAny (model prog w) A (.builtin nw ⟨[.ref C], [(kn, kv)]⟩) R ⟨h, g, d, t, os⟩ := by
  have ends := F.ends
  have inB : (Value.ref C :: bm).contains (.type B) = true := by
    rw [List.contains_cons, hT, F.hasB, Bool.or_true]
  have inA : (Value.ref C :: bm).contains (.type "AttributeError") = false := by
    rw [List.contains_cons, hT, F.noAttr]
    rfl
  have inN : (Value.ref C :: bm).contains (.type "NameError") = false := by
    rw [List.contains_cons, hT, F.noName]
    rfl
  refine codeAny_builtinAt F.entry ?_
  unfold Builtin.«BaseException.__new__»
  refine PySem.wpAt_bind ?_
  show PySem.wpAt _ _ _ (stack >>= _) _ _ _
  refine PySem.wpAt_bind (PySem.wpAt_stack fun p below => ?_)
  refine PySem.wpAt_of_wpAny ?_
  wp_walk
  refine PySem.wpAt_of_wpAny ?_
  rw [F.owner]
  repeat (first
    | with_reducible refine wpAny_madeHere_exc F.canon hC ?_
    | with_reducible refine wpAny_loadPart_at hC ?_
    | (with_reducible refine wpAny_isSubtype_exc hC ?_
       first | rw [inB] | rw [inA] | rw [inN])
    | wp_step)
  show R _ _
  rw [Heap.size_push]
  exact hq
theorem kw_type {Q : Fin → Shared → Prop} (F : ExcBaseFacts B nw ini bmB) (hT : ∀ X : String, bm.contains (.type X) = bmB.contains (.type X))
    (hC : ClsAt h nm q C N bs bm hdct sn sub ab col dd k0 k1 k2 k3 k5 nw)
    (hi : PySem.W.Looks (model prog w) h (typeLookup (.ref C) "__init__") (some (.ref fI)))
    (hb : ∀ self, PySem.W.Looks (model prog w) h (bindSpecial (.ref fI) self) (.ref fI, [self]))
    (hq : codeAny (model prog w) A (.call (.ref fI) ⟨[.ref (h.objs.size + 1)], [(kn, kv)]⟩)
      (fun r s' => match r with | .error e => Ex e s' | .ok (.ret v) => v = .none ∧ Q (.done (.ret (.ref (h.objs.size + 1)))) s' | .ok _ => False)
      ⟨(h.push (PySem.W.kdv_tup [])).push (excO C h.objs.size), g, d, t, os⟩) :
    wpAny (model prog w) A (Builtin.«type.__call__» ⟨[.ref C], [(kn, kv)]⟩) Q Ex ⟨h, g, d, t, os⟩ := by
  repeat (first
    | with_reducible refine wpAny_loadPart_at hC ?_
    | with_reducible refine wpAny_madeBy_exc hC ?_
    | wp_step)
  refine codeAny_call_builtin_code (Code.quiet_builtin _ F.quiet) ?_
  refine kw_check F hT hC ?_
  refine kw_new F hT hC ?_
  show wpAny _ _ _ _ _ _
  have kp : ∀ b o, h.get? b = some o → ((h.push (PySem.W.kdv_tup [])).push (excO C h.objs.size)).get? b = some o := fun b o e =>
    Heap.get?_push_of_some _ (Heap.get?_push_of_some _ e)
  have hC1 := kp _ _ hC
  have hnew : ((h.push (PySem.W.kdv_tup [])).push (excO C h.objs.size)).get? (h.objs.size + 1) = some (excO C h.objs.size) := by
    heap_get
  have inC : (Value.ref C :: bm).contains (.ref C) = true := by simp
  have i1 := hi.keeps kp
  have b1 := (hb (.ref (h.objs.size + 1))).keeps kp
  unfold isInstance
  repeat (first
    | with_reducible refine wpAny_loadPart_at hnew ?_
    | (with_reducible refine wpAny_isSubtype_exc hC1 ?_
       rw [inC])
    | wp_step)
  show wpAny _ _ (typeLookup (.ref C) _) _ _ _
  refine i1.at ?_
  refine wpAny_holding ?_
  refine wpAny_bind (b1.at ?_)
  refine wpAny_bind (wpAny_call ?_)
  refine codeAny_mono hq fun r s' z => ?_
  rcases r with e | (v | _ | _ | _) <;> first | exact z | exact z.elim | skip
  obtain ⟨rfl, z⟩ := z
  first
    | (wp_walk; exact z)
    | exact wpAny_pure (wpAny_pure z)
theorem kw_call (F : ExcBaseFacts B nw ini bmB) (hT : ∀ X : String, bm.contains (.type X) = bmB.contains (.type X))
    (hC : ClsAt h nm q C N bs bm hdct sn sub ab col dd k0 k1 k2 k3 k5 nw)
    (hi : PySem.W.Looks (model prog w) h (typeLookup (.ref C) "__init__") (some (.ref fI)))
    (hb : ∀ self, PySem.W.Looks (model prog w) h (bindSpecial (.ref fI) self) (.ref fI, [self]))
    (hq : codeAny (model prog w) (A.under (.builtin "type.__call__" ⟨[.ref C], [(kn, kv)]⟩)) (.call (.ref fI) ⟨[.ref (h.objs.size + 1)], [(kn, kv)]⟩)
      (PySem.W.InitBack (h.objs.size + 1) R) ⟨(h.push (PySem.W.kdv_tup [])).push (excO C h.objs.size), g, d, t, os⟩) :
    codeAny (model prog w) A (.call (.ref C) ⟨[], [(kn, kv)]⟩) R ⟨h, g, d, t, os⟩ := by
  have l1 := tc_lookup
  have l2 := tc_bind (.ref C)
  have ty : (⟨h, g, d, t, os⟩ : Shared).TypeIs (.ref C) "type" := ⟨_, hC, rfl⟩
  refine codeAny_of_tree ?_
  show wpAny _ _ (callAny (.ref C) _) _ _ _
  repeat (any_goals (first
    | assumption
    | with_reducible refine wpAny_loadPart_at hC ?_
    | wp_step))
  refine ⟨rfl, ?_⟩
  refine codeAny_call_builtin_at (Code.quiet_builtin _ (by decide +kernel)) entry_typeCall ?_
  have chk : ∀ {Q : Unit → Shared → Prop} {E' : Value → Shared → Prop} {A' : Around} {M : Model}, Q () ⟨h, g, d, t, os⟩ → wpAny M A' (checkBuiltinCall "type.__call__" ⟨[.ref C], [(kn, kv)]⟩) Q E' ⟨h, g, d, t, os⟩ := by
    intro Q E' A' M hq
    have f3 := tc_sub
    have hT' : (⟨h, g, d, t, os⟩ : Shared).TypeIs (.ref C) "type" := ⟨_, hC, rfl⟩
    simp only [checkBuiltinCall, tc_split, tc_kind]
    repeat (any_goals (first
      | assumption
      | with_reducible refine wpAny_loadPart_at hC ?_
      | with_reducible refine wpAny_onRaise ?_
      | with_reducible refine wpAny_map ?_
      | wp_step))
  refine chk (kw_type F hT hC hi hb ?_)
  refine codeAny_mono hq fun r s' z => ?_
  rcases r with e | (v | _ | _ | _) <;> exact z
end
section
variable {X : Cx} {ca : Nat → Addr} {W : WX} {x kn : Str} {p pos pos2 kpos : Pos} {f : Den} {a : Expr} {k : Nat} {fI C : Addr} {fd : FuncData} {ps : List Str} {sp : Sp} {ta : TA}
/-- the new exception, as pmk_oex tells it, of one keyword -/
theorem pmk_kw {n2 : Option Str} (T : OexC X.K C) (iC : PySem.W.findIn X.K (.ref C) "__init__" = some (some (.ref fI))) (tI : PySem.W.typeIn X.K (.ref fI) = some (.type "function"))
    (F1 : FnOk X.prog X.w X.K X.mg X.base (L2N.CX X.prog X.w) k fI fd ps sp) (hr : Room (k + 1) X.A) (hb : BindsP X.K fd ps [kn] 1 [0, 1]) (hl2 : ps.length = 2)
    (hx : Passes (L2N.CX X.prog X.w) X (fun _ _ _ => False)) (hg : Gl X x) (hm : X.mg x = some (.ref C)) (hkw : PK X [⟨n2, a, kpos⟩] ta)
    (hall : (backToKw pos (keywordEach [⟨n2, a, kpos⟩] X.env)).all (·.1.isSome) = true := by rfl) (hks : (backToKw pos (keywordEach [⟨n2, a, kpos⟩] X.env)).filterMap (·.1) = [kn] := by rfl)
    (hdb : (x == ("__debug__" : Str)) = false := by decide)
    (hpl : ((backTo pos (starEach [] X.env)).any (·.1) || (backToKw pos (keywordEach [⟨n2, a, kpos⟩] X.env)).any (·.1.isNone)) = false := by rfl) :
    L2N.PMk X (.Call (.Name x p) [] [⟨n2, a, kpos⟩] pos) (fun σ H Q => ta σ H fun vs H1 => vs.length = 1 ∧ tMkO C sp [] (fun _ H1 R => R vs H1) σ H1 Q) := by
  intro pins s σ H Q I h
  obtain ⟨nm, q, N, bs, bm, sn, sub, ab, col, dd, k0, k1, k2, k3, k5, hC, hbm⟩ := T.cls
  refine wpAny_Call_Name_kw (ld_glob I hg hm ?_ hdb)
  refine PySem.W.callWith_KW0 (h₀ := X.base) I.ok.mod.kin T.kC hall (thn (hkw.run pos pins s σ H _ I h) fun us s1 ⟨vs, H1, I1, r1, l1, hz, q1⟩ => ⟨I1.kIn, ?_⟩) hpl
  rw [hks]
  obtain ⟨v, rfl⟩ : ∃ v, vs = [v] := by
    match vs, l1 with
    | [v], _ => exact ⟨v, rfl⟩
  obtain ⟨u, rfl, rv⟩ : ∃ u, us = [u] ∧ RelV v u := by
    cases r1 with
    | cons rv r0 =>
      cases r0
      exact ⟨_, rfl, rv⟩
  show wpAny _ _ (call (.ref C) [] [(kn, u)]) _ _ _
  obtain ⟨hp, g, dr, tk, os⟩ := s1
  have hsz : hp.objs.size ≤ hp.objs.size + 1 := Nat.le_succ _
  have hq := q1 (hp.objs.size + 1) (I1.hok.fresh hsz)
  have kk : ∀ b o, hp.get? b = some o → ((hp.push (PySem.W.kdv_tup [])).push (excO C hp.objs.size)).get? b = some o := fun b o e =>
    Heap.get?_push_of_some _ (Heap.get?_push_of_some _ e)
  have hget : ((hp.push (PySem.W.kdv_tup [])).push (excO C hp.objs.size)).get? (hp.objs.size + 1) = some (excO C hp.objs.size) := by
    heap_get
  have I2 : Inv X pins σ (upd H1 (hp.objs.size + 1) (exo (hp.objs.size + 1) C none)) ⟨(hp.push (PySem.W.kdv_tup [])).push (excO C hp.objs.size), g, dr, tk, os⟩ :=
    I1.laid (o := exo (hp.objs.size + 1) C none) (a := hp.objs.size + 1) (t' := tk) (h' := (hp.push (PySem.W.kdv_tup [])).push (excO C hp.objs.size)) kk hsz (exo_ok hget)
  have r2 : Vals [V.ref (hp.objs.size + 1), v] [Value.ref (hp.objs.size + 1), u] := .cons rfl (.cons rv .nil)
  have b := hb ⟨(hp.push (PySem.W.kdv_tup [])).push (excO C hp.objs.size), g, dr, tk, os⟩ [Value.ref (hp.objs.size + 1)] [u] rfl rfl
  refine wpAny_call (kw_call F.excBase_ValueError (fun Y => refsVE_contains Y bm hbm) (I1.kIn _ _ hC) (PySem.W.looks_findIn I1.kIn iC) (fun self => PySem.W.bind_fn I1.kIn self tI)
    (codeAny_mono (F1.run _ X.stack _ _ ⟨[Value.ref (hp.objs.size + 1)], [kn].zip [u]⟩ [Value.ref (hp.objs.size + 1), u] _ _ (fun _ _ _ => False) (hr.make C [] [(kn, u)]) (I2.env0.make C [] [(kn, u)]) b r2 hq) fun r s' hq' => ?_))
  cases r with
  | error er => exact hx pins σ _ _ er s' I2 hq'
  | ok fl =>
    cases fl with
    | ret u =>
      obtain ⟨v, H2, os2, bare2, un2, hok2, rv, ev, d, fs, ea, ed, hd1, q2⟩ := hq'
      subst ev
      obtain ⟨h2, g2, d2, t2, os'⟩ := s'
      refine ⟨rv, ?_⟩
      obtain ⟨t0, G, J, kG, ge, hoe, na⟩ := mk_end0 (d2 := d2) (t2 := t2) I1 hsz kk un2 hok2 os2 bare2 ea ed hd1
      exact ⟨_, _, _, ⟨G, g2, d2, t2, os'⟩, _, .ref C, some d, rfl, J, kG, ge, hoe, ⟨rfl, rfl, fun vs e => by cases e; rfl⟩, rfl, rfl, na, rfl, bare2, raises_own T.exC T.tyC, q2⟩
    | next => exact hq'.elim
    | brk => exact hq'.elim
    | cont => exact hq'.elim
/-- raise C(value = e) -/
theorem s_raiseK {c : Nat} {n2 : Option Str} (hc : X.calm = true) (tk : L2N.Takes X W) (T : ExcT X.K (ca c) fI) (tI : PySem.W.typeIn X.K (.ref fI) = some (.type "function"))
    (F1 : FnOk X.prog X.w X.K X.mg X.base (L2N.CX X.prog X.w) k fI fd ps (spInit X.K)) (hr : Room (k + 1) X.A) (hb : BindsP X.K fd ps [kn] 1 [0, 1]) (hl2 : ps.length = 2)
    (hg : Gl X x) (hm : X.mg x = some (.ref (ca c))) (ha : PE X a (tE X.K ca W f)) (hdb : (x == ("__debug__" : Str)) = false := by decide)
    (hall : (backToKw pos (keywordEach [⟨n2, a, kpos⟩] X.env)).all (·.1.isSome) = true := by rfl) (hks : (backToKw pos (keywordEach [⟨n2, a, kpos⟩] X.env)).filterMap (·.1) = [kn] := by rfl)
    (hpl : ((backTo pos (starEach [] X.env)).any (·.1) || (backToKw pos (keywordEach [⟨n2, a, kpos⟩] X.env)).any (·.1.isNone)) = false := by rfl) :
    PS X (.Raise (some (.Call (.Name x p) [] [⟨n2, a, kpos⟩] pos)) none pos2) (tS X.K ca W (sRaise c f)) :=
  PS.imp (L2N.ps_raise hc tk (pmk_kw T.oex T.init tI F1 hr hb hl2 passN hg hm (pk_cons ha pk_nil) hall hks hdb hpl)) fun U σ H ⟨w, env, e, s, m, h⟩ =>
    tE_then (k := fun d S1 => RS.err c d env S1) e s m h fun w1 d v s1 m1 r x1 q => by
      refine ⟨rfl, (by show 1 ≤ 1000; decide), fun a ha => ?_⟩
      refine ⟨a, ca c, v, rfl, T.oex, upd_same, T.noval, fun d0 hd0 hne => ?_⟩
      rw [upd_ne hne] at hd0
      refine ⟨rfl, d0, [("value", v)], upd_same, ?_, hd0, ?_⟩
      · rw [upd_ne hne]; exact upd_same
      · have eH : upd (del (upd (upd (upd w1.H a (exo a (ca c) none)) d0 (exd d0 [("value", v)])) a (exo a (ca c) (some d0))) a) d0 (.xd [("value", v)]) = upd w1.H d0 (.xd [("value", v)]) := by
          funext b
          by_cases hb : b = d0
          · subst hb; rw [upd_same, upd_same]
          · rw [upd_ne hb, upd_ne hb]
            by_cases hba : b = a
            · subst hba; rw [del_same, ha]
            · rw [del_ne hba, upd_ne hba, upd_ne hb, upd_ne hba]
        rw [eH]
        have x2 := Ext.alloc (w := w1) (o := .xd [("value", v)]) hd0
        have s2 := s1.alloc (X := X) (o := .xd [("value", v)]) hd0
        exact q ⟨upd w1.H d0 (.xd [("value", v)]), w1.ρ, w1.S⟩ rfl x2 s2 σ _ _ (m1.mono x2 s1) ⟨rfl, d0, v, rfl, upd_same, fun z => s1.notM0 hd0 z, r.mono x2 s1⟩
end
end Py

set_option maxHeartbeats 4000000
/-! PyT: texts. -/
namespace Py
open PySem PySem.Spec PyProof.Rows L2
/-- a method of a text, of one value -/
abbrev OpS := Str → D → Store → R D
def strK (o : OpS) (d : D) (g : Den) (e : Env) (S : Store) : R D := match d with | .str x => (g e S).bind fun b S2 => o x b S2 | _ => .bad
def eStr1 (o : OpS) (f g : Den) : Den := fun e S => (f e S).bind fun a S1 => strK o a g e S1
/-- .. that gives a new list -/
abbrev OpSF := Str → D → Store → R (List D)
def strKF (o : OpSF) (d : D) (g : Den) (e : Env) (S : Store) : R (List D) := match d with | .str x => (g e S).bind fun b S2 => o x b S2 | _ => .bad
def dStr1 (o : OpSF) (f g : Den) : Dens := fun e S => (f e S).bind fun a S1 => strKF o a g e S1
def MuteS (o : OpS) : Prop := ∀ x b S c v S', o x b S ≠ .err c v S'
def MuteSF (o : OpSF) : Prop := ∀ x b S c v S', o x b S ≠ .err c v S'
def stStarts : OpS := fun x b S => match b with | .str y => .ok (.bl (Txt.startswith x y)) S | _ => .bad
def stPart : OpS := fun x b S => match b with
  | .str y => if (y.length == 0) = false ∧ x.length ≤ sizeLine then .ok (.tup [.str (Txt.partition x y).1, .str (Txt.partition x y).2.1, .str (Txt.partition x y).2.2]) S else .bad
  | _ => .bad
def stSplit : OpSF := fun x b S => match b with
  | .str y => if (y.length == 0) = false ∧ x.length + 2 ≤ sizeLine then .ok ((Txt.split x y).map .str) S else .bad
  | _ => .bad
def isStrs : List D → Option (List Str)
  | [] => some []
  | .str x :: ds => (isStrs ds).map (x :: ·)
  | _ => none
def stJoin : OpS := fun x b S => match (asSq b S).bind isStrs with
  | some ys => if (ys.map (·.length)).sum + ys.length * x.length ≤ 16777216 then .ok (.str (Txt.join x ys)) S else .bad
  | none => .bad
theorem ms_starts : MuteS stStarts := by intro x b S c v S' h; unfold stStarts at h; split at h <;> cases h
theorem ms_part : MuteS stPart := by intro x b S c v S' h; unfold stPart at h; split at h <;> (try split at h) <;> cases h
theorem ms_join : MuteS stJoin := by intro x b S c v S' h; unfold stJoin at h; split at h <;> (try split at h) <;> cases h
theorem ms_split : MuteSF stSplit := by intro x b S c v S' h; unfold stSplit at h; split at h <;> (try split at h) <;> cases h
section
variable {X : Cx} {ca : Nat → Addr} {W : WX} {pos p apos : Pos} {f g h : Den} {gs hs : Dens} {a b e o : Expr} {es : List Expr} {w : Wd}
def rOS (K : PySem.W.Frag) (ca : Nat → Addr) (o : OpS) : V → List V → Hp → VK → Prop := fun x xs H Q => ∃ w y z d, w.H = H ∧ x = .str z ∧ xs = [y] ∧ SOk K ca w ∧ Rep K ca w y d ∧ Sat (o z d w.S) (QV K ca w Q) fun _ _ _ => False
def rOSF (K : PySem.W.Frag) (ca : Nat → Addr) (o : OpSF) : V → List V → Hp → VK → Prop := fun x xs H Q => ∃ w y z d, w.H = H ∧ x = .str z ∧ xs = [y] ∧ SOk K ca w ∧ Rep K ca w y d ∧ Sat (o z d w.S) (QF K ca w Q) fun _ _ _ => False
theorem mtImp {id : String} {r r' : V → List V → Hp → VK → Prop} (h : MtR X id r) (i : ∀ x xs H Q, r' x xs H Q → r x xs H Q) : MtR X id r' := fun pins s σ H x xs v us Q I k l q => h pins s σ H x xs v us Q I k l (i x xs H Q q)
theorem e_str1 {op : OpS} {id : String} {name : Str} (slot : Slot "str" name id) (ty : typeOf (.builtin id) = pure (.type "method_descriptor")) (rule : MtR X id (rOS X.K ca op)) (n : MuteS op) (ho : PE X o (tE X.K ca W f)) (he : PE X e (tE X.K ca W g))
    (hs : starEach [e] X.env = [(false, eval e X.env)] := by rfl) (hbase : attributeBase o name X.env (eval o X.env) = eval o X.env := by rfl) (hline : (apos.endLine == pos.line) = true := by rfl) :
    PE X (.Call (.Attribute o name apos) [e] [] pos) (tE X.K ca W (eStr1 op f g)) :=
  PE.imp (pe_m1 slot ty rule ho he hs hbase hline) fun σ H Q ⟨w, env, e, s, m, h⟩ => by
    refine tE_bind (Qb := fun w => QV X.K ca w Q) e s m h (fun e q => QV.later e q) fun w1 d v s1 m1 r x1 h1 => ?_
    cases r with
    | str z =>
      refine ⟨⟨z, rfl⟩, ?_⟩
      refine tE_bind (Qb := fun w => QV X.K ca w Q) rfl s1 m1 h1 (fun e q => QV.later e q) fun w2 d2 v2 s2 m2 r2 e2 h2 => ?_
      exact ⟨w2, v2, z, d2, rfl, rfl, rfl, s2, r2, h2.noErr (n _ _ _)⟩
    | _ => exact h1.elim
theorem f_str1 {op : OpSF} {id : String} {name : Str} (slot : Slot "str" name id) (ty : typeOf (.builtin id) = pure (.type "method_descriptor")) (rule : MtR X id (rOSF X.K ca op)) (n : MuteSF op) (ho : PE X o (tE X.K ca W f)) (he : PE X e (tE X.K ca W g))
    (hs : starEach [e] X.env = [(false, eval e X.env)] := by rfl) (hbase : attributeBase o name X.env (eval o X.env) = eval o X.env := by rfl) (hline : (apos.endLine == pos.line) = true := by rfl) :
    PE X (.Call (.Attribute o name apos) [e] [] pos) (tF X.K ca W (dStr1 op f g)) :=
  PE.imp (pe_m1 slot ty rule ho he hs hbase hline) fun σ H Q ⟨w, env, e, s, m, h⟩ => by
    refine tE_bind (Qb := fun w => QF X.K ca w Q) e s m h (fun e q => QF.later e q) fun w1 d v s1 m1 r x1 h1 => ?_
    cases r with
    | str z =>
      refine ⟨⟨z, rfl⟩, ?_⟩
      refine tE_bind (Qb := fun w => QF X.K ca w Q) rfl s1 m1 h1 (fun e q => QF.later e q) fun w2 d2 v2 s2 m2 r2 e2 h2 => ?_
      exact ⟨w2, v2, z, d2, rfl, rfl, rfl, s2, r2, h2.noErr (n _ _ _)⟩
    | _ => exact h1.elim
theorem repL_strs (ys : List Str) : RepL X.K ca w (ys.map V.str) (ys.map D.str) := by
  induction ys with
  | nil => exact .nil
  | cons y ys ih => exact .cons (.str y) ih
theorem rt_starts : MtR X "str.startswith" (rOS X.K ca stStarts) := mtImp mt_startswith fun x xs H Q h => by
  obtain ⟨w, y, z, d, rfl, rfl, rfl, s, r, h⟩ := h
  unfold stStarts at h
  cases r with
  | str y => exact ⟨z, y, rfl, rfl, sat_here s h (.bl _)⟩
  | _ => exact h.elim
theorem rt_part : MtR X "str.partition" (rOS X.K ca stPart) := mtImp mt_partition fun x xs H Q h => by
  obtain ⟨w, y, z, d, rfl, rfl, rfl, s, r, h⟩ := h
  unfold stPart at h
  cases r with
  | str y =>
    dsimp only at h
    by_cases hc : (y.length == 0) = false ∧ z.length ≤ sizeLine
    · rw [if_pos hc] at h
      refine ⟨z, y, rfl, rfl, hc.1, hc.2, fun p hp => ?_⟩
      have x := Ext.alloc (w := w) (o := .tup [.str (Txt.partition z y).1, .str (Txt.partition z y).2.1, .str (Txt.partition z y).2.2]) hp
      exact h ⟨upd w.H p _, w.ρ, w.S⟩ rfl x (s.alloc hp) (.ref p) (.tup (.inl (.inl upd_same)) (.cons (.str _) (.cons (.str _) (.cons (.str _) .nil))))
    · rw [if_neg hc] at h
      exact h.elim
  | _ => exact h.elim
theorem rt_split : MtR X "str.split" (rOSF X.K ca stSplit) := mtImp mt_split fun x xs H Q h => by
  obtain ⟨w, y, z, d, rfl, rfl, rfl, s, r, h⟩ := h
  unfold stSplit at h
  cases r with
  | str y =>
    dsimp only at h
    by_cases hc : (y.length == 0) = false ∧ z.length + 2 ≤ sizeLine
    · rw [if_pos hc] at h
      refine ⟨z, y, rfl, rfl, hc.1, hc.2, fun p hp => ?_⟩
      exact h w rfl (.refl w) s _ p (repL_strs _) hp
    · rw [if_neg hc] at h
      exact h.elim
  | _ => exact h.elim
theorem strs_rep {vs : List V} {ds : List D} {ys : List Str} (r : RepL X.K ca w vs ds) (h : isStrs ds = some ys) : vs = ys.map V.str := by
  induction ds generalizing vs ys with
  | nil =>
    cases r
    cases h
    rfl
  | cons d ds ih =>
    cases r with
    | cons rd rs =>
      cases d with
      | str x =>
        unfold isStrs at h
        obtain ⟨zs, hz, rfl⟩ := Option.map_eq_some_iff.mp h
        cases rd
        rw [ih rs hz]
        rfl
      | _ => cases h
theorem rt_join : MtR X "str.join" (rOS X.K ca stJoin) := mtImp mt_join fun x xs H Q h => by
  obtain ⟨w, y, z, d, rfl, rfl, rfl, s, r, h⟩ := h
  unfold stJoin at h
  cases q : asSq d w.S with
  | none => rw [q] at h; exact h.elim
  | some ds =>
    rw [q] at h
    cases q2 : isStrs ds with
    | none => simp only [Option.bind_some, q2] at h; exact h.elim
    | some ys =>
      simp only [Option.bind_some, q2] at h
      by_cases hc : (ys.map (·.length)).sum + ys.length * z.length ≤ 16777216
      · rw [if_pos hc] at h
        obtain ⟨a, vs, rfl, h1, r1⟩ := asSq_rep s r q
        have := strs_rep r1 q2
        subst this
        exact ⟨z, a, ys, rfl, rfl, h1, hc, sat_here s h (.str _)⟩
      · rw [if_neg hc] at h
        exact h.elim

/-! ### a text's signs -/
def sgn (c : Nat) : D := .str ⟨#[c]⟩
def signs (x : Str) : List D := x.cps.toList.map sgn
theorem its_ok {x : Str} : ItOk X.K ca w (Its x) (wkL (signs x)) where
  goes := fun i w2 d e s2 hi => by
    have h : (signs x)[i]? = some d := Option.some.inj hi
    have hl := (List.getElem?_eq_some_iff.mp h).1
    unfold signs at hl
    rw [List.length_map, Array.length_toList] at hl
    exact hl
  stops := fun i w2 e s2 hi => by
    have h : (signs x)[i]? = none := Option.some.inj hi
    have hl := List.getElem?_eq_none_iff.mp h
    unfold signs at hl
    rw [List.length_map, Array.length_toList] at hl
    exact hl
  yields := fun i w2 d v H' e s2 hi y => by
    obtain ⟨rfl, c, hc, rfl⟩ := y
    have h : (signs x)[i]? = some d := Option.some.inj hi
    unfold signs at h
    rw [List.getElem?_map, Array.getElem?_toList, hc] at h
    cases h
    exact ⟨w2, rfl, rfl, .refl w2, s2, .str _⟩
def seqSK (d : D) (S1 : Store) : R (Walk × Nat) := match d with
  | .str x => .ok (wkL (signs x), (signs x).length) S1
  | d => seqK d S1
def dSeqS (f : Den) : DenI := fun e S => (f e S).bind fun d S1 => seqSK d S1
theorem i_seqS {tg : Expr} (ha : PE X a (tE X.K ca W f)) : PI X tg a (tIt X.K ca W (dSeqS f)) := by
  refine ⟨fun pins s σ H R I h => ?_⟩
  obtain ⟨w, env, e, sk, m, h⟩ := h
  subst e
  have old : (∀ z S, f env w.S ≠ .ok (.str z) S) → tIt X.K ca W (dSeq f) σ w.H R := fun hn => by
    refine ⟨w, env, rfl, sk, m, ?_⟩
    have e2 : dSeq f env w.S = dSeqS f env w.S := by
      unfold dSeqS
      show (f env w.S).bind (fun d S1 => seqK d S1) = _
      cases q : f env w.S with
      | ok d S1 =>
        cases d with
        | str z => exact absurd q (hn z S1)
        | _ => rfl
      | err c v S1 => rfl
      | bad => rfl
    rw [e2]
    exact h
  cases q : f env w.S with
  | ok d S1 =>
    cases d with
    | str z =>
      have h' := Sat.bind h
      rw [q] at h'
      refine (pi_str ha).run pins s σ w.H R I ⟨w, env, rfl, sk, m, ?_⟩
      rw [q]
      intro w1 hS x s1 v r
      cases r
      exact ⟨z, rfl, h' w1 hS x s1 _ its_ok⟩
    | _ => exact (i_seq ha).run pins s σ w.H R I (old fun z S e => by rw [q] at e; cases e)
  | err c v S1 => exact (i_seq ha).run pins s σ w.H R I (old fun z S e => by rw [q] at e; cases e)
  | bad => exact (i_seq ha).run pins s σ w.H R I (old fun z S e => by rw [q] at e; cases e)
/-! ### one sign in a text -/
def oInS (neg : Bool) : Op2 := fun a b S => match b with
  | .str z => (match a with | .str ⟨⟨[c]⟩⟩ => .ok (.bl (neg != decide (c ∈ z.cps.toList))) S | _ => .bad)
  | b => oIn neg a b S
theorem m_inS {neg : Bool} : Mute2 (oInS neg) := by
  intro a b S c v S' h
  unfold oInS at h
  split at h
  · split at h <;> cases h
  · exact m_in _ _ _ _ _ _ h
theorem r_inS (hu : X.A.units + 65 < cLine) : OpR X (compareOp .In) (rO2 X.K ca (oInS false)) := opImp (opOr (r_in (ca := ca) hu) op_in_sign) fun x y H Q h => by
  obtain ⟨w, dx, dy, e, sk, r1, r2, q⟩ := h
  subst e
  cases r2 with
  | str z =>
    unfold oInS at q
    dsimp only at q
    split at q
    · cases r1
      refine .inr ⟨_, z, rfl, rfl, ?_⟩
      have z := sat_here sk q (.bl _)
      simpa using z
    · exact q.elim
  | non => exact .inl ⟨w, _, _, rfl, sk, r1, .non, q⟩
  | bl b => exact .inl ⟨w, _, _, rfl, sk, r1, .bl b, q⟩
  | int i => exact .inl ⟨w, _, _, rfl, sk, r1, .int i, q⟩
  | tup a b => exact .inl ⟨w, _, _, rfl, sk, r1, .tup a b, q⟩
  | lst a b c => exact .inl ⟨w, _, _, rfl, sk, r1, .lst a b c, q⟩
  | ref a => exact .inl ⟨w, _, _, rfl, sk, r1, .ref a, q⟩
  | fls a => exact .inl ⟨w, _, _, rfl, sk, r1, .fls a, q⟩
  | dct a b c d => exact .inl ⟨w, _, _, rfl, sk, r1, .dct a b c d, q⟩
  | exc a b c d e => exact .inl ⟨w, _, _, rfl, sk, r1, .exc a b c d e, q⟩
theorem r_ninS (hu : X.A.units + 65 < cLine) : OpR X (compareOp .NotIn) (rO2 X.K ca (oInS true)) := opImp (opOr (r_nin (ca := ca) hu) op_notIn_sign) fun x y H Q h => by
  obtain ⟨w, dx, dy, e, sk, r1, r2, q⟩ := h
  subst e
  cases r2 with
  | str z =>
    unfold oInS at q
    dsimp only at q
    split at q
    · cases r1
      refine .inr ⟨_, z, rfl, rfl, ?_⟩
      have z := sat_here sk q (.bl _)
      simpa using z
    · exact q.elim
  | non => exact .inl ⟨w, _, _, rfl, sk, r1, .non, q⟩
  | bl b => exact .inl ⟨w, _, _, rfl, sk, r1, .bl b, q⟩
  | int i => exact .inl ⟨w, _, _, rfl, sk, r1, .int i, q⟩
  | tup a b => exact .inl ⟨w, _, _, rfl, sk, r1, .tup a b, q⟩
  | lst a b c => exact .inl ⟨w, _, _, rfl, sk, r1, .lst a b c, q⟩
  | ref a => exact .inl ⟨w, _, _, rfl, sk, r1, .ref a, q⟩
  | fls a => exact .inl ⟨w, _, _, rfl, sk, r1, .fls a, q⟩
  | dct a b c d => exact .inl ⟨w, _, _, rfl, sk, r1, .dct a b c d, q⟩
  | exc a b c d e => exact .inl ⟨w, _, _, rfl, sk, r1, .exc a b c d e, q⟩
/-! ### str(n), int(text) -/
def oStrI : OpN := fun ds S => match ds with
  | [.int i] => if i.natAbs.log2 < 1920 then .ok (.str (toString i)) S else .bad
  | _ => .bad
theorem n_strI : MuteN oStrI := by intro a S c v S' h; unfold oStrI at h; split at h <;> (try split at h) <;> cases h
theorem c_strI : CallR X (.type "str") (rON X.K ca oStrI) := callImp call_str_int fun xs H Q h => by
  obtain ⟨w, ds, e, s, r, h⟩ := h
  subst e
  unfold oStrI at h
  cases r with
  | nil => exact h.elim
  | cons r t =>
    cases t with
    | cons _ _ => cases r <;> exact h.elim
    | nil =>
      cases r with
      | int i =>
        dsimp only at h
        by_cases hl : i.natAbs.log2 < 1920
        · rw [if_pos hl] at h
          exact ⟨i, rfl, hl, sat_here s h (.str _)⟩
        · rw [if_neg hl] at h
          exact h.elim
      | _ => exact h.elim
def oIntS : OpN := fun ds S => match ds with
  | [.str x] => (match PySem.intText? x with | some n => if x.length ≤ 640 then .ok (.int n) S else .bad | none => .bad)
  | _ => .bad
theorem n_intS : MuteN oIntS := by intro a S c v S' h; unfold oIntS at h; split at h <;> (try split at h) <;> (try split at h) <;> cases h
theorem c_intS : CallR X (.type "int") (rON X.K ca oIntS) := callImp call_int_str fun xs H Q h => by
  obtain ⟨w, ds, e, s, r, h⟩ := h
  subst e
  unfold oIntS at h
  cases r with
  | nil => exact h.elim
  | cons r t =>
    cases t with
    | cons _ _ => cases r <;> exact h.elim
    | nil =>
      cases r with
      | str x =>
        dsimp only at h
        cases hn : PySem.intText? x with
        | none => rw [hn] at h; exact h.elim
        | some n =>
          rw [hn] at h
          dsimp only at h
          by_cases hl : x.length ≤ 640
          · rw [if_pos hl] at h
            exact ⟨x, n, rfl, hn, hl, sat_here s h (.int _)⟩
          · rw [if_neg hl] at h
            exact h.elim
      | _ => exact h.elim
/-! ### a text n times -/
theorem rep_size {α : Type} {a : Array α} : ∀ (n : Nat) (acc : Array α), ((List.replicate n a).foldl (· ++ ·) acc).size = acc.size + n * a.size
  | 0, acc => by simp
  | n + 1, acc => by
    rw [List.replicate_succ, List.foldl_cons, rep_size n, Array.size_append, Nat.add_mul]
    omega
def repS (x : Str) (k : Int) : Str := ⟨(List.replicate k.toNat x.cps).foldl (· ++ ·) #[]⟩
def oRepS : Op2 := fun a b S => match a, b with
  | .str x, .int k => if 0 ≤ k ∧ k ≤ 1000 ∧ 1 ≤ x.length ∧ x.length ≤ 1000 then .ok (.str (repS x k)) S else .bad
  | _, _ => .bad
theorem m_repS : Mute2 oRepS := by
  intro a b S c v S' h
  unfold oRepS at h
  split at h <;> (try split at h) <;> cases h
theorem op_repS : OpR X (binaryOp .Mult) (fun x y H Q => ∃ (z : Str) (k : Int), x = .str z ∧ y = .int k ∧ (0 ≤ k ∧ k ≤ 1000 ∧ 1 ≤ z.length ∧ z.length ≤ 1000) ∧ Q (.str (repS z k)) H) := by
  intro pins s σ H x y v u Q I rx ry h
  obtain ⟨z, k, rfl, rfl, ⟨h0, h1, h2, h3⟩, h⟩ := h
  obtain ⟨t, rfl⟩ := rx
  obtain ⟨t', rfl⟩ := ry
  have b1 : (x : Int) → x ≤ 1000 → ¬ x > (2 ^ 63 - 1) / 1000 := fun x hx => by omega
  refine PySem.P.mul_str (by rw [decide_eq_false (by omega), decide_eq_false (by omega)]; rfl) (fun hk _ => ?_) (fun hk _ => ?_) ?_
  · have hk0 : 0 < k := by omega
    have : (2 ^ 63 - 1) / 1000 ≤ (2 ^ 63 - 1) / k := by
      apply Int.le_ediv_of_mul_le hk0
      have : (2 ^ 63 - 1 : Int) / 1000 * k ≤ (2 ^ 63 - 1 : Int) / 1000 * 1000 := Int.mul_le_mul_of_nonneg_left h1 (by decide)
      omega
    have : (z.length : Int) ≤ 1000 := by omega
    omega
  · have : z.length * k.toNat ≤ 1000 * 1000 := Nat.mul_le_mul h3 (by omega)
    exact PyProof.Rows.short24 (by omega)
  · have sm : ∀ {M : Made} {u : Value} {k' : Nat}, True := fun {_ _ _} => trivial
    have hrep : z.length * k.toNat ≤ 1000 * 1000 := Nat.mul_le_mul h3 (by omega)
    by_cases hk : k < 1
    · rw [if_pos hk]
      have e : repS z k = Str.empty := by
        have : k.toNat = 0 := by omega
        unfold repS
        rw [this]; rfl
      rw [e] at h
      exact ⟨by decide, ⟨.str _, H, I.tok _, ⟨_, rfl⟩, h⟩⟩
    · rw [if_neg hk]
      by_cases h1' : k = 1
      · subst h1'
        have e : repS z 1 = z := by
          unfold repS
          show (⟨#[] ++ z.cps⟩ : Str) = z
          rw [Array.empty_append]
        rw [e] at h
        rw [if_pos (by rfl)]
        exact ⟨.str _, H, I, ⟨_, rfl⟩, h⟩
      · rw [if_neg (by simp; omega)]
        have hlen : (repS z k).length = z.length * k.toNat := by
          show ((List.replicate k.toNat z.cps).foldl (· ++ ·) #[]).size = z.cps.size * k.toNat
          rw [rep_size, Nat.mul_comm]
          simp
        refine ⟨?_, ⟨.str _, H, I.tok _, ⟨_, rfl⟩, h⟩⟩
        show (repS z k).length ≤ sizeLine
        rw [hlen]
        have : sizeLine = 16777216 := by decide
        omega
theorem r_repS : OpR X (binaryOp .Mult) (rO2 X.K ca oRepS) := opImp op_repS fun x y H Q h => by
  obtain ⟨w, dx, dy, e, s, r1, r2, h⟩ := h
  subst e
  unfold oRepS at h
  cases r1 with
  | str z =>
    cases r2 with
    | int k =>
      dsimp only at h
      by_cases hc : 0 ≤ k ∧ k ≤ 1000 ∧ 1 ≤ z.length ∧ z.length ≤ 1000
      · rw [if_pos hc] at h
        exact ⟨z, k, rfl, rfl, hc, sat_here s h (.str _)⟩
      · rw [if_neg hc] at h
        exact h.elim
    | _ => exact h.elim
  | _ => exact h.elim
/-! ### a ** n of any size -/
def oPowW : Op2 := fun a b S => match a, b with | .int i, .int j => if 0 ≤ j ∧ (bits i : Int) * j ≤ 134217728 then .ok (.int (i ^ j.toNat)) S else .bad | _, _ => .bad
theorem m_powW : Mute2 oPowW := by
  intro a b S c v S' h
  unfold oPowW at h
  split at h <;> (try split at h) <;> cases h
theorem bits_ib (i : Int) : Builtin.Int.intBits i ≤ bits i := by
  unfold Builtin.Int.intBits bits
  split <;> omega
theorem op_powW : OpR X (binaryOp .Pow) (rI (fun i j => 0 ≤ j ∧ (bits i : Int) * j ≤ 134217728) fun i j => .int (i ^ j.toNat)) := opI fun i j _ _ _ _ _ hc q => by
  refine pow_int hc.1 ?_ q
  have h1 : ((Builtin.Int.intBits i : Nat) : Int) ≤ (bits i : Int) := by have := bits_ib i; omega
  have h2 := Int.mul_le_mul_of_nonneg_right h1 hc.1
  have h3 := hc.2
  omega
theorem r_powW : OpR X (binaryOp .Pow) (rO2 X.K ca oPowW) := r_int2 op_powW fun dx dy w Q s h => by
  unfold oPowW at h
  cases dx <;> cases dy <;> first
    | exact h.elim
    | (rename_i i j
       dsimp only at h
       by_cases hm : 0 ≤ j ∧ (bits i : Int) * j ≤ 134217728
       · rw [if_pos hm] at h
         exact ⟨_, _, rfl, rfl, hm, sat_here s h (.int _)⟩
       · rw [if_neg hm] at h
         exact h.elim)
/-! ### xs[::-1] -/
theorem RepL.rev {vs : List V} {ds : List D} (r : RepL X.K ca w vs ds) : RepL X.K ca w vs.reverse ds.reverse := by
  induction ds generalizing vs with
  | nil => cases r; exact .nil
  | cons d ds ih =>
    cases r with
    | cons rd rs =>
      rw [List.reverse_cons, List.reverse_cons]
      exact (ih rs).append (.cons rd .nil)
def revK (d : D) (S1 : Store) : R (List D) := match asL d S1 with | some xs => .ok xs.reverse S1 | none => .bad
def dRevL (f : Den) : Dens := fun e S => (f e S).bind fun d S1 => revK d S1
theorem f_rev {k : Nat} {p1 p2 p3 : Pos} (ha : PE X a (tE X.K ca W f)) : PE X (.Subscript a (.Slice none none (some (.UnaryOp .USub (.Constant (.int 1) k p1) p2)) p3) pos) (tF X.K ca W (dRevL f)) :=
  PE.imp (pe_revL ha) fun σ H Q ⟨w, env, e, s, m, h⟩ => by
    refine tE_bind (Qb := fun w => QF X.K ca w Q) e s m h (fun e q => QF.later e q) fun w1 d v s1 m1 r x1 h1 => ?_
    unfold revK at h1
    cases q : asL d w1.S with
    | none => rw [q] at h1; exact h1.elim
    | some xs =>
      rw [q] at h1
      obtain ⟨a, vs, rfl, h2, r2⟩ := asL_rep s1 r q
      exact ⟨a, vs, rfl, .inl (.inl h2), fun p hp => h1 w1 rfl (.refl w1) s1 _ p r2.rev hp⟩
end

/-! ### try with several clauses, of which the first one takes what is raised -/
/-- what a clause wishes of an exception of the body: it is an object of its own from then on; i: the slot of the clause's name -/
def wTrkF (K : PySem.W.Frag) (c : Value) (i : Option Nat) (ts : Addr → TS) (U : Ends) : WX := fun cls dd σ H =>
  PySem.W.exmOne K cls c = some true ∧ ∃ C d, cls = .ref C ∧ dd = some d ∧ ∀ a, H a = none →
      ts a { nx := fun σ' H' => U.nx (putO i none σ') H', rt := U.rt, bk := fun σ' H' => U.bk (putO i none σ') H', ct := fun σ' H' => U.ct (putO i none σ') H' }
        (putO i (some (.ref a)) σ) (upd H a (exk a C d))
section
variable {X : Cx} {x : Str} {c : Value} {body suite : List Stmt} {b₀ : Stmt} {np pos pos' : Pos} {tb : WX → TS} {ts : Addr → TS} 
/-- try: body / except x [as n]: suite -/
theorem ps_try_first {hds : List ExceptHandler} {nm : Option Str} {i : Option Nat} (hex : X.ex = []) (hs : X.stack = X.env :: X.outer) (hf : X.env.frame = some X.env.locals) (hN : X.N.Nodup)
    (hn : match nm, i with | some n, some i => X.N[i]? = some n ∧ X.env.kindOf n = some .local | none, none => True | _, _ => False) (hc : Names X x c)
    (hb : ∀ (W : WX) (pn : List (Addr × Obj)) (xe : Value → Shared → Prop), L2N.Takes (X.tr pn xe) W → PassesOwn (model X.prog X.w) X.A X.env xe → PSs (X.tr pn xe) body (tb W))
    (hsu : ∀ (a : Addr) (pn : List (Addr × Obj)), PSs (X.suite a pn) (b₀ :: suite) (ts a)) :
    PS X (.Try body (.ExceptHandler (some (.Name x np)) nm (b₀ :: suite) pos' :: hds) [] [] pos) (fun U σ H => tb (wTrkF X.K c i ts U) U σ H) := by
  refine ⟨fun pins s σ H U I h => ?_⟩
  have ok := I.ok
  have hfr : X.A.frames = some (X.env :: X.outer) := by rw [ok.frames, hs]
  refine wpAny_Try_except ?_
  let xe2 : Value → Shared → Prop := fun e s₁ => wpAny (model X.prog X.w) X.A (noteFrame e X.env) (fun _ s₂ => wpAny (model X.prog X.w) X.A (setFlight e none) (fun _ s₃ =>
    wpAny (model X.prog X.w) X.A (handleBy e X.env (.ExceptHandler (some (.Name x np)) nm (b₀ :: suite) pos' :: hds)) (SP X pins U) X.xe s₃) X.xe s₂) X.xe s₁
  have caught : L2N.Takes (X.tr (X.pn ++ pins) xe2) (wTrkF X.K c i ts U) := by
    intro u s' xx
    obtain ⟨a, B, sI, pins', σ1, H1, cls, dd, rfl, J', nb, up, sky, na, os, ag, hb1, hyes⟩ := xx
    have J : Inv X pins σ1 H1 sI := J'.ofTry ok
    have sky' : Sky B (X.env :: X.outer) a (L2N.Zn cls dd) X.env.locals s'.heap := by rw [← hs]; exact sky
    show wpAny (model X.prog X.w) X.A (noteFrame (.ref a) X.env) _ _ _
    -- the ground does not have it
    have nB : B.get? a = none := by
      rcases sky' with ⟨_, q, _⟩ | q | q
      · exact q
      · exact q.2.1
      · exact q.2.1
    refine L2N.Sky.land L2N.Zn.steady hfr hf sky' fun h3 fl3 up3 => ?_
    have J3 : Inv X pins σ1 H1 { s' with heap := h3 } := J.landed nb fl3.1 (up.trans up3) os ag
    obtain ⟨oe3, vs3, he3, hz3, hd3⟩ := fl3.there
    have out : ∀ {h : Heap} {o : Obj} {vs : Array Value}, h.FunFrames B (X.env :: X.outer) → h.get? a = some o → o.data = .fields vs → a ∉ frs (X.env :: X.outer) := fun ff e dt hm => by
      obtain ⟨_, o', e', hnf⟩ := ff.mem hm
      rw [e] at e'; cases e'
      exact hnf _ dt
    have nfr := out fl3.2.2.1 he3 hd3
    have nL : a ≠ X.env.locals := fun z => nfr (List.mem_filterMap.mpr ⟨X.env, List.mem_cons_self, by rw [hf, z]⟩)
    have nI : sI.heap.get? a = none := by
      cases q : sI.heap.get? a with
      | none => rfl
      | some o =>
        have z := nb a o q (by rw [hs]; exact nfr)
        rw [nB] at z; cases z
    have n0 : X.s_0.heap.get? a = none := by
      cases q : X.s_0.heap.get? a with
      | none => rfl
      | some o =>
        obtain ⟨o', z⟩ := J.base.there a o q (by rw [hex]; simp)
        rw [nI] at z; cases z
    have npin : ∀ p ∈ X.pn ++ pins, p.1 ≠ a := fun p hp z => by
      have q := (J.pin p hp).1
      rw [z, nI] at q; cases q
    refine wpAny_handleBy_cons (codeAny_handlers_test ?_) (by intro q; cases q)
    have LT : PySem.W.Looks (model X.prog X.w) h3 (typeOf (.ref a)) cls := fun A Q E s k q => wpAny_typeOf_ref (k _ _ he3) (by rw [hz3.1]; exact q)
    have LM := PySem.W.exm_one (M := model X.prog X.w) (J3.kIn) LT hb1
    have S3 := J3.toSuite a
    have test : ∀ {Q : Value → Shared → Prop} {E : Value → Shared → Prop}, Q c { s' with heap := h3 } → wpAny (model X.prog X.w) (X.A.mark (some (.ref a))) (eval (.Name x np) X.env) Q E { s' with heap := h3 } := fun {Q E} q => by
      obtain ⟨hg, hdbg, hm | ⟨hm, hv, hnn⟩⟩ := hc
      · exact ld_glob (X := X.suite a (X.pn ++ pins)) S3 hg hm q hdbg
      · exact ld_blt (X := X.suite a (X.pn ++ pins)) S3 hg hm hv q hnn hdbg
    refine test (LM.here ?_)
    obtain ⟨C, d, rfl, rfl, hy⟩ := hyes
    cases nm with
    | none =>
      cases i with
      | some i => exact hn.elim
      | none =>
        refine codeAny_handlers_suite ?_
        refine HandSPX.lands_againZ fl3 fun h4 fl4 up4 => ?_
        have J4 : Inv X pins σ1 H1 { s' with heap := h4 } := J.landed nb fl4.1 ((up.trans up3).trans up4) os ag
        obtain ⟨oe4, vs4, he4, hz4, hd4⟩ := fl4.there
        have T4 := (J4.track n0 npin he4 hz4.1 hz4.2.1 hd4 (hz4.2.2 _ hd4) na nL).toSuite a
        refine wpAny_mono ((hsu a (X.pn ++ pins)).run [] _ _ _ _ T4 (hy a na)) (fun fl s6 hsp => ?_) (fun _ _ z => False.elim z)
        cases fl with
        | next =>
          obtain ⟨σ6, H6, S6, q6⟩ := hsp
          exact ⟨_, _, S6.ofSuite ok, q6⟩
        | brk =>
          obtain ⟨σ6, H6, S6, q6⟩ := hsp
          exact ⟨_, _, S6.ofSuite ok, q6⟩
        | cont =>
          obtain ⟨σ6, H6, S6, q6⟩ := hsp
          exact ⟨_, _, S6.ofSuite ok, q6⟩
        | ret u =>
          obtain ⟨v6, σ6, H6, S6, r6, q6⟩ := hsp
          exact ⟨_, _, _, S6.ofSuite ok, r6, q6⟩
    | some n =>
      cases i with
      | none => exact hn.elim
      | some i =>
        obtain ⟨hi, hln⟩ := hn
        refine codeAny_handlers_suite_as ?_
        refine HandSPX.lands_againZ fl3 fun h4 fl4 up4 => ?_
        have J4 : Inv X pins σ1 H1 { s' with heap := h4 } := J.landed nb fl4.1 ((up.trans up3).trans up4) os ag
        obtain ⟨oe4, vs4, he4, hz4, hd4⟩ := fl4.there
        have T4 := (J4.track n0 npin he4 hz4.1 hz4.2.1 hd4 (hz4.2.2 _ hd4) na nL).toSuite a
        refine store_ok (X := X.suite a (X.pn ++ pins)) (v := .ref a) T4 hN hi (.inl hln) rfl (fun s5 S5 => ?_) (.inr hln)
        refine wpAny_mono ((hsu a (X.pn ++ pins)).run [] s5 _ _ _ S5 (hy a na)) (fun fl s6 hsp => ?_) (fun _ _ z => False.elim z)
        have fin : ∀ {σ6 : St} {H6 : Hp} {Q : Shared → Prop}, Inv (X.suite a (X.pn ++ pins)) [] σ6 H6 s6 → (∀ s7, Inv X pins (σ6.set i none) H6 s7 → Q s7) →
            wpAny (model X.prog X.w) X.A (do bindName X.env n .none; unbindBehindTheSuite X.env n pos') (fun _ s7 => Q s7) X.xe s6 := fun {σ6 H6 Q} S6 hq => gone_ok (S6.ofSuite ok) hN hi hln hq
        cases fl with
        | next =>
          obtain ⟨σ6, H6, S6, q6⟩ := hsp
          exact fin S6 fun s7 J7 => ⟨_, _, J7, q6⟩
        | brk =>
          obtain ⟨σ6, H6, S6, q6⟩ := hsp
          exact fin S6 fun s7 J7 => ⟨_, _, J7, q6⟩
        | cont =>
          obtain ⟨σ6, H6, S6, q6⟩ := hsp
          exact fin S6 fun s7 J7 => ⟨_, _, J7, q6⟩
        | ret u =>
          obtain ⟨v6, σ6, H6, S6, r6, q6⟩ := hsp
          exact fin S6 fun s7 J7 => ⟨_, _, _, J7, r6, q6⟩
  refine wpAny_mono ((hb _ (X.pn ++ pins) xe2 caught PassesOwn.looking).run [] s σ H U (I.toTry _) h) (fun fl s1 hsp => ?_) (fun e s1 he => he)
  cases fl with
  | next =>
    obtain ⟨σ1, H1, J1, q⟩ := hsp
    exact wpAny_execs_nil ⟨σ1, H1, J1.ofTry ok, q⟩
  | brk =>
    obtain ⟨σ1, H1, J1, q⟩ := hsp
    exact ⟨σ1, H1, J1.ofTry ok, q⟩
  | cont =>
    obtain ⟨σ1, H1, J1, q⟩ := hsp
    exact ⟨σ1, H1, J1.ofTry ok, q⟩
  | ret u =>
    obtain ⟨v, σ1, H1, J1, r, q⟩ := hsp
    exact ⟨v, σ1, H1, J1.ofTry ok, r, q⟩
end
/-- try: F / except (a class that takes all that is raised) [as the slot i]: G / ... -/
def sTryF (m : Nat → Option Bool) (i : Option Nat) (F G : DenS) : DenS := fun e S => match F e S with
  | .err c v e1 S1 => (match m c with
    | some true => (match G (putO i (some (.exc c v)) e1) S1 with
      | .next e2 S2 => .next (putO i none e2) S2
      | .brk e2 S2 => .brk (putO i none e2) S2
      | .cont e2 S2 => .cont (putO i none e2) S2
      | .ret d S2 => .ret d S2
      | _ => .bad)
    | _ => .bad)
  | r => r
section
variable {X : Cx} {ca : Nat → Addr} {W : WX} {x : Str} {c : Value} {body suite : List Stmt} {b₀ : Stmt} {np pos pos' : Pos} {F G : DenS} {hds : List ExceptHandler}
theorem s_tryF0 {ts : Addr → TS} {nm : Option Str} {i : Option Nat} {m : Nat → Option Bool} (hm : ∀ k b, m k = some b → PySem.W.exmOne X.K (.ref (ca k)) c = some b) (hex : X.ex = []) (hs : X.stack = X.env :: X.outer) (hf : X.env.frame = some X.env.locals) (hN : X.N.Nodup)
    (hn : match nm, i with | some n, some i => X.N[i]? = some n ∧ X.env.kindOf n = some .local | none, none => True | _, _ => False) (hc : Names X x c)
    (hb : ∀ (W : WX) (pn : List (Addr × Obj)) (xe : Value → Shared → Prop), L2N.Takes (X.tr pn xe) W → PassesOwn (model X.prog X.w) X.A X.env xe → PSs (X.tr pn xe) body (tS X.K ca W F))
    (hsu : ∀ (a : Addr) (pn : List (Addr × Obj)), PSs (X.suite a pn) (b₀ :: suite) (ts a)) (hts : ∀ a U σ H, (∃ C d, H a = some (exk a C d)) → tS X.K ca (fun _ _ _ _ => False) G U σ H → ts a U σ H) :
    PS X (.Try body (.ExceptHandler (some (.Name x np)) nm (b₀ :: suite) pos' :: hds) [] [] pos) (tS X.K ca W (sTryF m i F G)) :=
  PS.imp (ps_try_first (i := i) hex hs hf hN hn hc (fun W pn xe => hb W pn xe) hsu) fun U σ H ⟨w, env, e, s, mm, h⟩ => by
    refine ⟨w, env, e, s, mm, ?_⟩
    unfold sTryF at h
    cases q : F env w.S with
    | next e1 S1 => rw [q] at h; exact h
    | brk e1 S1 => rw [q] at h; exact h
    | cont e1 S1 => rw [q] at h; exact h
    | ret d S1 => rw [q] at h; exact h
    | bad => rw [q] at h; exact h
    | err k v e1 S1 =>
      rw [q] at h
      dsimp only at h
      intro w1 hS x1 s1 σ1 cls dd m1 ex
      subst hS
      obtain ⟨rfl, d, vv, rfl, hd, nM, rv⟩ := ex
      cases hmk : m k with
      | none => rw [hmk] at h; exact h.elim
      | some b =>
        cases b with
        | false => rw [hmk] at h; exact h.elim
        | true =>
          rw [hmk] at h
          refine ⟨hm k true hmk, ca k, d, rfl, rfl, fun a ha => ?_⟩
          dsimp only at h
          have x2 := Ext.alloc (w := w1) (o := exk a (ca k) d) ha
          have s2 := s1.alloc (X := X) (o := exk a (ca k) d) ha
          have re : Rep X.K ca ⟨upd w1.H a (exk a (ca k) d), w1.ρ, w1.S⟩ (.ref a) (.exc k v) := by
            refine .exc (d := d) upd_same (x2.keep _ _ hd nM) ?_ (x2.notM hd nM) (rv.mono x2 s1)
            exact fun z => s1.notM0 ha z
          have ha0 : ∀ (i : Option Nat), Sim X.K ca ⟨upd w1.H a (exk a (ca k) d), w1.ρ, w1.S⟩ (putO i (some (.exc k v)) e1) (putO i (some (.ref a)) σ1) := fun i => by
            cases i with
            | none => exact m1.mono x2 s1
            | some i => exact (m1.mono x2 s1).set i re
          refine hts a _ _ _ ⟨_, _, upd_same⟩ ?_
          refine ⟨_, _, rfl, s2, ha0 i, ?_⟩
          have fin : ∀ {e2 : Env} {σ2 : St} {w2 : Wd}, Sim X.K ca w2 e2 σ2 → Sim X.K ca w2 (putO i none e2) (putO i none σ2) := fun {e2 σ2 w2} z => by
            cases i with
            | none => exact z
            | some i => exact z.unset i
          cases zg : G (putO i (some (.exc k v)) e1) w1.S with
          | next e2 S2 =>
            rw [zg] at h
            intro w3 hS x3 s3 σ3 m3
            exact h w3 hS (x1.trans (x2.trans x3)) s3 _ (fin m3)
          | brk e2 S2 =>
            rw [zg] at h
            intro w3 hS x3 s3 σ3 m3
            exact h w3 hS (x1.trans (x2.trans x3)) s3 _ (fin m3)
          | cont e2 S2 =>
            rw [zg] at h
            intro w3 hS x3 s3 σ3 m3
            exact h w3 hS (x1.trans (x2.trans x3)) s3 _ (fin m3)
          | ret d2 S2 =>
            rw [zg] at h
            intro w3 hS x3 s3 v3 r3
            exact h w3 hS (x1.trans (x2.trans x3)) s3 _ r3
          | err c2 v2 e2 S2 => rw [zg] at h; exact h.elim
          | bad => rw [zg] at h; exact h.elim
theorem s_tryF {nm : Option Str} {i : Option Nat} {m : Nat → Option Bool} (hm : ∀ k b, m k = some b → PySem.W.exmOne X.K (.ref (ca k)) c = some b) (hex : X.ex = []) (hs : X.stack = X.env :: X.outer) (hf : X.env.frame = some X.env.locals) (hN : X.N.Nodup)
    (hn : match nm, i with | some n, some i => X.N[i]? = some n ∧ X.env.kindOf n = some .local | none, none => True | _, _ => False) (hc : Names X x c)
    (hb : ∀ (W : WX) (pn : List (Addr × Obj)) (xe : Value → Shared → Prop), L2N.Takes (X.tr pn xe) W → PassesOwn (model X.prog X.w) X.A X.env xe → PSs (X.tr pn xe) body (tS X.K ca W F))
    (hsu : ∀ (a : Addr) (pn : List (Addr × Obj)), PSs (X.suite a pn) (b₀ :: suite) (tS X.K ca (fun _ _ _ _ => False) G)) :
    PS X (.Try body (.ExceptHandler (some (.Name x np)) nm (b₀ :: suite) pos' :: hds) [] [] pos) (tS X.K ca W (sTryF m i F G)) :=
  s_tryF0 (ts := fun _ => tS X.K ca (fun _ _ _ _ => False) G) hm hex hs hf hN hn hc hb hsu fun _ _ _ _ _ q => q
end
end Py

set_option maxHeartbeats 4000000
/-! PyHot: a, b = x, y as the first statement of an except suite. -/
namespace Py
open PySem PySem.Spec PyProof.Rows L2 HotX
section
variable {prog : Program} {w : World} {s : Shared} {A : Around} {E : Value → Shared → Prop}
/-- a tuple's iterator at its end, while an exception is handled -/
theorem tup_end_hot {it t x1 : Addr} {i : Nat} {items : Array Value} {Q : Option Value → Shared → Prop} (hot : HotAt A x1 s.heap)
    (ne : x1 ≠ it) (hit : IsTupIter s.heap it t i) (ht : IsTup s.heap t items) (hx : items[i]? = none)
    (hQ : ∀ h', Heap.ExtBut it s.heap h' → Q none { s with heap := h' }) :
    wpAny (model prog w) A (pyNext (.ref it)) Q E s := by
  obtain ⟨o, ho, hc, hd⟩ := id hit
  obtain ⟨ol, hol, _, nl, hdl⟩ := ht
  obtain ⟨hh, o1, vs1, h1, d1, c1⟩ := hot
  unfold pyNext
  refine wpAny_bind (wpAny_attempt ?_)
  refine wpAny_callSpecial?_slot (name := Str.ofString "__next__") hit.typeIs slot_tupleiter_next ?_
  refine wpAny_call_entry slot_tupleiter_next hit.typeIs entry_tupleiter_next ?_ (args_tupleiter_next _)
  show wpAny _ _ (field (.ref it) 0 >>= _) _ _ _
  refine wpAny_bind (wpAny_field ho hd (x := Value.ref t) rfl ?_)
  show wpAny _ _ (if (Value.ref t == Value.none) = true then _ else _) _ _ _
  rw [if_neg (show (Value.ref t == Value.none) ≠ true from Bool.false_ne_true)]
  show wpAny _ _ (field (.ref it) 1 >>= _) _ _ _
  refine wpAny_bind (wpAny_field ho hd (x := Value.int i 0) rfl ?_)
  show wpAny _ _ (seqItems? (.ref t) >>= _) _ _ _
  refine wpAny_bind (wpAny_seqItems hol hdl ?_)
  simp only [hx, Int.toNat_natCast]
  refine wpAny_bind (wpAny_rule ?_)
  refine wpAny_bind (wpAny_setField ho hd (by simp) ?_)
  show wpAny _ _ (newExc (Value.type "StopIteration") [] >>= _) _ _ _
  refine wpAny_bind ?_
  simp only [newTuple, newExc]
  refine wpAny_bind (wpAny_newObj_type ?_ (by size_fits))
  refine wpAny_bind (m := firstArgMember _ _) (wpAny_of_eq (a := Value.none) ?_ ?_)
  · first | rfl | (simp only [firstArgMember]; rfl)
  refine wpAny_newObj_type ?_ (by size_fits)
  have g1 : ∀ {f : Array Value → Array Value} {o2 o3 : Obj}, (((s.heap.update it (Obj.mapFields f)).push o2).push o3).get? x1 = some o1 := fun {f o2 o3} =>
    Heap.get?_push_of_some _ (Heap.get?_push_of_some _ (by rw [Heap.get?_update_other _ _ ne.symm]; exact h1))
  have g2 : ∀ {f : Array Value → Array Value} {o2 : Obj}, ((s.heap.update it (Obj.mapFields f)).push o2).get? x1 = some o1 := fun {f o2} =>
    Heap.get?_push_of_some _ (by rw [Heap.get?_update_other _ _ ne.symm]; exact h1)
  refine raiseNew_hot (x1 := x1) ⟨hh, o1, vs1, g1, d1, c1⟩ (Nat.ne_of_lt (Heap.lt_size g2)) (Heap.get?_push_size _ rfl) rfl (by first | (simp; done) | (simp; omega)) ?_
  refine wpAny_bind (wpAny_isInstance (b := true) (T := "StopIteration") ⟨_, Heap.get?_update_self _ (Heap.get?_push_size _ rfl) rfl, rfl⟩ isSubtype_stop ?_)
  refine wpAny_pure (hQ _ fun b ob hb e => ?_)
  have e1 : (s.heap.update it (Obj.mapFields (·.setIfInBounds 0 Value.none))).get? b = some ob := by rw [Heap.get?_update_other _ _ (Ne.symm hb)]; exact e
  have e2 := Heap.get?_push_of_some ({ cls := .type "tuple", data := .seq ([] : List Value).toArray } : Obj) e1
  rw [Heap.get?_update_other _ _ (Nat.ne_of_gt (Heap.lt_size e2))]
  exact Heap.get?_push_of_some _ e2
theorem unpack_hot {t x1 : Addr} {items : Array Value} {Q : List Value → Shared → Prop} (hot : HotAt A x1 s.heap) (ht : IsTup s.heap t items)
    (hQ : ∀ h', Heap.ExtBut s.heap.objs.size s.heap h' → Q items.toList { s with heap := h' }) :
    wpAny (model prog w) A (unpackItems (.ref t) items.size none) Q E s := by
  have below : t ≠ s.heap.objs.size := by
    obtain ⟨o, ho, _⟩ := ht
    exact Nat.ne_of_lt (Heap.lt_size ho)
  have bx : x1 ≠ s.heap.objs.size := by
    obtain ⟨_, o1, _, h1, _⟩ := hot
    exact Nat.ne_of_lt (Heap.lt_size h1)
  unfold unpackItems
  refine wpAny_bind ?_
  unfold notIterableAtAll
  refine wpAny_bind (wpAny_specialOf ht.typeIs slot_tuple_iter.lookup ?_)
  refine wpAny_pure ?_
  simp only [if_false, Bool.false_eq_true]
  refine wpAny_bind (wpAny_holding (iter_tuple ht ?_))
  refine wpAny_bind (wpAny_holding ?_)
  refine draw_tuple below items.size 0 _ _ ⟨_, Heap.get?_push_size _ rfl, rfl, rfl⟩ (ht.push _) (by omega) fun h1 hit1 hs1 => ?_
  have all : List.take items.size (List.drop 0 items.toList) = items.toList := by
    rw [List.drop_zero]
    exact List.take_of_length_le (by simp)
  rw [all, if_neg (by simp)]
  have ht1 : IsTup h1 t items := (ht.push _).extBut hs1.extBut below
  have hot1 : HotAt A x1 h1 := by
    obtain ⟨hh, o1, vs1, g1, d1, c1⟩ := hot
    exact ⟨hh, o1, vs1, hs1.extBut _ _ bx (Heap.get?_push_of_some _ g1), d1, c1⟩
  refine wpAny_bind (wpAny_holding (tup_end_hot (s := { s with heap := h1 }) hot1 bx hit1 ht1 (by simp) fun h2 he2 => ?_))
  simp only [Bool.false_eq_true, Option.isSome_none, if_false]
  refine wpAny_pure (hQ h2 fun b o hb e => ?_)
  exact he2 b o hb (hs1.extBut b o hb (Heap.get?_push_of_some _ e))
end
section
variable {X : Cx} {ca : Nat → Addr} {W : WX} {f g : Den} {a b : Expr} {pos : Pos} {ad C d : Addr}
/-- x, y = a, b with plain names, while the exception at ad is handled -/
theorem ps_parH {i j : Nat} {x y : Str} {ta : TA} {px py pt : Pos} {kt k2 pt2} (hh : X.A.handled = some (.ref ad)) (hN : X.N.Nodup) (hi : X.N[i]? = some x) (hj : X.N[j]? = some y) (hij : i ≠ j)
    (hx : X.env.scope.names.lookup x = some .local) (hy : X.env.scope.names.lookup y = some .local) (ha : PA X [a, b] ta)
    (hw : swappedStores [.Tuple [.Name x px, .Name y py] kt pt] (.Tuple [a, b] k2 pt2) X.env = pure (some [x, y]))
    (hs : swapsWithSole [.Tuple [.Name x px, .Name y py] kt pt] (.Tuple [a, b] k2 pt2) pos.line X.env = pure false := by rfl) :
    PS X (.Assign [.Tuple [.Name x px, .Name y py] kt pt] (.Tuple [a, b] k2 pt2) pos)
      (fun U σ H => ta σ H fun vs H1 => ∃ v u, vs = [v, u] ∧ (∃ C d, H1 ad = some (exk ad C d)) ∧ U.nx ((σ.set i (some v)).set j (some u)) H1) := by
  refine ⟨fun pins s σ H U I h => ?_⟩
  rw [exec_Assign_arm]
  refine wpAny_bind (wpAny_standAt ?_)
  rw [hs]
  refine wpAny_bind (wpAny_pure ?_)
  rw [if_neg (by decide)]
  refine wpAny_bind (Tuple_ ?_)
  refine thn (ha.run _ pins s σ H _ I h) fun us s1 ⟨vs, H1, I1, r1, v, u, e1, ⟨C, d, he⟩, q1⟩ => ?_
  subst e1
  obtain ⟨u1, u2, rfl, rv, ru⟩ : ∃ u1 u2, us = [u1, u2] ∧ RelV v u1 ∧ RelV u u2 := by
    cases r1 with
    | cons p r =>
      cases r with
      | cons p2 r => cases r; exact ⟨_, _, rfl, p, p2⟩
  refine wpAny_newObj_type ?_ (show 2 ≤ sizeLine by decide)
  obtain ⟨oe, ve, ge, c1, c2, c3, c4⟩ := (show ObjOk X.prog X.w H1 s1.heap ad (exk ad C d) from I1.hok ad _ he).1
  have I2 : Inv X pins σ H1 { s1 with heap := s1.heap.push { cls := .type "tuple", data := .seq [u1, u2].toArray } } :=
    I1.kept (t' := s1.toks) fun b o e => Heap.get?_push_of_some _ e
  rw [hw]
  refine wpAny_bind (wpAny_pure ?_)
  show wpAny (model X.prog X.w) X.A (do
    rule "assign.swapped-stores"
    let items ← unpackItems (.ref s1.heap.objs.size) 2 none
    assignInOrder [fun v => bindName X.env y v, fun v => bindName X.env x v] items.reverse
    pure Flow.next) _ _ _
  refine wpAny_bind (wpAny_rule (wpAny_bind ?_))
  refine unpack_hot (x1 := ad) (items := #[u1, u2]) ⟨hh, oe, ve, Heap.get?_push_of_some _ ge, c3, c4⟩ (IsTup.new s1.heap _) fun h' hx' => ?_
  have I3 := I2.kept (t' := s1.toks) (h' := h') fun b o e => hx' b o (Nat.ne_of_lt (Heap.lt_size e)) e
  show wpAny _ _ (assignInOrder [fun v => bindName X.env y v, fun v => bindName X.env x v] [u2, u1] >>= fun _ => pure Flow.next) _ _ _
  refine wpAny_bind (assignInOrder_cons (wpAny_bindName ?_))
  refine store_ok I3 hN hj (.inl hy) ru (fun s2 I4 => ?_) (.inr hy)
  refine assignInOrder_cons (wpAny_bindName ?_)
  refine store_ok I4 hN hi (.inl hx) rv (fun s3 I5 => assignInOrder_nil (wpAny_pure ?_)) (.inr hx)
  rw [List.set_comm _ _ (Ne.symm hij)] at I5
  exact ⟨_, H1, I5, q1⟩
theorem s_parH {i j : Nat} {x y : Str} {px py pt : Pos} {kt k2 pt2} (hh : X.A.handled = some (.ref ad)) (hN : X.N.Nodup) (hi : X.N[i]? = some x) (hj : X.N[j]? = some y) (hij : i ≠ j)
    (hx : X.env.scope.names.lookup x = some .local) (hy : X.env.scope.names.lookup y = some .local) (ha : PE X a (tE X.K ca W f)) (hb : PE X b (tE X.K ca W g))
    (hw : swappedStores [.Tuple [.Name x px, .Name y py] kt pt] (.Tuple [a, b] k2 pt2) X.env = pure (some [x, y])) (hst : starEach [a, b] X.env = (false, eval a X.env) :: starEach [b] X.env := by rfl) (hst2 : starEach [b] X.env = (false, eval b X.env) :: starEach [] X.env := by rfl)
    (hs : swapsWithSole [.Tuple [.Name x px, .Name y py] kt pt] (.Tuple [a, b] k2 pt2) pos.line X.env = pure false := by rfl) :
    PS X (.Assign [.Tuple [.Name x px, .Name y py] kt pt] (.Tuple [a, b] k2 pt2) pos) (fun U σ H => (∃ C d, H ad = some (exk ad C d)) ∧ tS X.K ca W (sPar i j f g) U σ H) :=
  PS.imp (ps_parH hh hN hi hj hij hx hy (pa_cons ha (pa_cons hb pa_nil hst2) hst) hw hs) fun U σ H ⟨⟨C, d, he⟩, w, env, e, s, m, h⟩ => by
    subst e
    have keep : ∀ {w2 : Wd}, Ext w w2 → w2.H ad = some (exk ad C d) := fun {w2} x => x.keep _ _ he (s.notM he fun _ z => by
      have z' : HO.ext _ = HO.lst _ := z
      cases z')
    exact tE_then (k := fun d S1 => match g env S1 with | .ok d2 S2 => RS.next ((env.set i (some d)).set j (some d2)) S2 | .err c v S2 => RS.err c v env S2 | .bad => RS.bad) rfl s m h fun w1 d v s1 m1 r x q =>
      tE_then (f := g) (k := fun d2 S2 => RS.next ((env.set i (some d)).set j (some d2)) S2) rfl s1 m1 q fun w2 d2 v2 s2 m2 r2 x2 q2 =>
        ⟨v, v2, rfl, ⟨C, _, keep (x.trans x2)⟩, Aft.here (w' := w2) q2 (.refl w2) s2 _ ((m2.set i (r.mono x2 s1)).set j r2)⟩
/-- the suite that is just that -/
theorem ps_oneH {st : Stmt} {P : Hp → Prop} {t : TS} (h : PS X st (fun U σ H => P H ∧ t U σ H)) : PSs X [st] (fun U σ H => P H ∧ t U σ H) := pss_one h
end
section
variable {X : Cx} {ca : Nat → Addr} {W : WX} {x : Str} {c : Value} {body : List Stmt} {b₀ : Stmt} {np pos pos' : Pos} {F G : DenS} {hds : List ExceptHandler}
/-- .. whose clause is one such statement -/
theorem s_tryFH {nm : Option Str} {i : Option Nat} {m : Nat → Option Bool} (hm : ∀ k b, m k = some b → PySem.W.exmOne X.K (.ref (ca k)) c = some b) (hex : X.ex = []) (hs : X.stack = X.env :: X.outer) (hf : X.env.frame = some X.env.locals) (hN : X.N.Nodup)
    (hn : match nm, i with | some n, some i => X.N[i]? = some n ∧ X.env.kindOf n = some .local | none, none => True | _, _ => False) (hc : Names X x c)
    (hb : ∀ (W : WX) (pn : List (Addr × Obj)) (xe : Value → Shared → Prop), L2N.Takes (X.tr pn xe) W → PassesOwn (model X.prog X.w) X.A X.env xe → PSs (X.tr pn xe) body (tS X.K ca W F))
    (hsu : ∀ (a : Addr) (pn : List (Addr × Obj)), PS (X.suite a pn) b₀ (fun U σ H => (∃ C d, H a = some (exk a C d)) ∧ tS X.K ca (fun _ _ _ _ => False) G U σ H)) :
    PS X (.Try body (.ExceptHandler (some (.Name x np)) nm [b₀] pos' :: hds) [] [] pos) (tS X.K ca W (sTryF m i F G)) :=
  s_tryF0 (ts := fun a U σ H => (∃ C d, H a = some (exk a C d)) ∧ tS X.K ca (fun _ _ _ _ => False) G U σ H) hm hex hs hf hN hn hc hb (fun a pn => pss_one (hsu a pn)) fun a U σ H e q => ⟨e, q⟩
end
end Py

set_option maxHeartbeats 4000000
/-! PyTx: reckoning with texts. -/
namespace Py
open PySem (Str sizeLine)
open TL (tl)
theorem slz : sizeLine = 16777216 := by decide
section
variable {f g : Den} {e : Env} {S : Store} {E : Nat → D → Store → Prop} {Q : D → Store → Prop} {QL : List D → Store → Prop} {x y : Str}
theorem W_str1 {o : OpS} : Sat (eStr1 o f g e S) Q E = Sat (f e S) (fun a S1 => Sat (strK o a g e S1) Q E) E := by
  show Sat ((f e S).bind fun a S1 => strK o a g e S1) Q E = _
  rw [Sat_bind]
theorem strK_s {o : OpS} : Sat (strK o (.str x) g e S) Q E = Sat (g e S) (fun b S2 => Sat (o x b S2) Q E) E := by
  show Sat ((g e S).bind fun b S2 => o x b S2) Q E = _
  rw [Sat_bind]
theorem W_dstr1 {o : OpSF} : Sat (dStr1 o f g e S) QL E = Sat (f e S) (fun a S1 => Sat (strKF o a g e S1) QL E) E := by
  show Sat ((f e S).bind fun a S1 => strKF o a g e S1) QL E = _
  rw [Sat_bind]
theorem strKF_s {o : OpSF} : Sat (strKF o (.str x) g e S) QL E = Sat (g e S) (fun b S2 => Sat (o x b S2) QL E) E := by
  show Sat ((g e S).bind fun b S2 => o x b S2) QL E = _
  rw [Sat_bind]
theorem st_starts : stStarts x (.str y) S = .ok (.bl (PySem.Txt.startswith x y)) S := rfl
theorem st_part (hy : (y.length == 0) = false) (hx : x.length ≤ 1000000) : stPart x (.str y) S = .ok (.tup [.str (PySem.Txt.partition x y).1, .str (PySem.Txt.partition x y).2.1, .str (PySem.Txt.partition x y).2.2]) S := if_pos ⟨hy, by rw [slz]; omega⟩
theorem st_split (hy : (y.length == 0) = false) (hx : x.length ≤ 1000000) : stSplit x (.str y) S = .ok ((PySem.Txt.split x y).map .str) S := if_pos ⟨hy, by rw [slz]; omega⟩
theorem W_seqS {Q : Walk × Nat → Store → Prop} : Sat (dSeqS f e S) Q E = Sat (f e S) (fun d S1 => Sat (seqSK d S1) Q E) E := by
  show Sat ((f e S).bind fun d S1 => seqSK d S1) Q E = _
  rw [Sat_bind]
theorem seqSK_s : seqSK (.str x) S = .ok (wkL (signs x), (signs x).length) S := rfl
def slK (d : D) (l u : Option Int) (S : Store) : R D := match d with
  | .tup xs => .ok (.tup (cutD xs l u)) S
  | .str z => if z.length ≤ sizeLine then .ok (.str (L2.cutS z l u)) S else .bad
  | d => (match asL d S with | some xs => .ok (.lst (cutD xs l u)) S | none => .bad)
theorem W_sl {lo hi : DenO} : Sat (eSl f lo hi e S) Q E = Sat (f e S) (fun d S1 => Sat (lo e S1) (fun l S2 => Sat (hi e S2) (fun u S3 => Sat (slK d l u S3) Q E) E) E) E := by
  show Sat ((f e S).bind fun d S1 => (lo e S1).bind fun l S2 => (hi e S2).bind fun u S3 => slK d l u S3) Q E = _
  simp only [Sat_bind]
theorem W_oNo {Q : Option Int → Store → Prop} : Sat (oNo e S) Q E = Q none S := rfl
def partK (d : D) (S : Store) : R (Option Int) := match d with | .int i => .ok (some i) S | _ => .bad
theorem W_oPart {Q : Option Int → Store → Prop} : Sat (oPart f e S) Q E = Sat (f e S) (fun d S1 => Sat (partK d S1) Q E) E := by
  show Sat ((f e S).bind fun d S1 => partK d S1) Q E = _
  rw [Sat_bind]
theorem partK_i {i : Int} : partK (.int i) S = .ok (some i) S := rfl
theorem slK_s {l u : Option Int} (h : x.length ≤ 1000000) : slK (.str x) l u S = .ok (.str (L2.cutS x l u)) S := if_pos (by rw [slz]; omega)
theorem len_s (h : x.length ≤ 1000000) : oLen [.str x] S = .ok (.int x.length) S := if_pos (by rw [slz]; omega)
theorem fit_s (h : okS x = true) : fit (.str x) = true := by unfold fit pureB depth; rw [h]; rfl
theorem eq_s (h1 : okS x = true) (h2 : okS y = true) : oEq (.str x) (.str y) S = .ok (.bl (x == y)) S := by rw [oEq_fit (fit_s h1) (fit_s h2)]; unfold eqB; rfl
theorem ne_s (h1 : okS x = true) (h2 : okS y = true) : oNe (.str x) (.str y) S = .ok (.bl (!(x == y))) S := by rw [oNe_fit (fit_s h1) (fit_s h2)]; unfold eqB; rfl
theorem add_s (h : x.length + y.length ≤ 1000000) : oCat (.str x) (.str y) S = .ok (.str (x ++ y)) S := if_pos (by rw [slz]; omega)
end
/-- a text of proper signs, not too long -/
structure OkX (n : Nat) (x : Str) : Prop where
  ok : okS x = true
  len : x.length ≤ n
theorem OkX.mono {m n : Nat} {x : Str} (h : OkX m x) (k : m ≤ n) : OkX n x := ⟨h.ok, Nat.le_trans h.len k⟩
theorem okS_iff {x : Str} : okS x = true ↔ ∀ c ∈ tl x, c < 0x110000 := by
  unfold okS
  rw [Array.all_eq_true]
  constructor
  · intro h c hc
    obtain ⟨i, hi, rfl⟩ := List.mem_iff_getElem.mp hc
    rw [Array.length_toList] at hi
    have := h i hi
    simpa using this
  · intro h i hi
    have := h (x.cps[i]) (by simp [tl])
    simpa using this
theorem len_tl {x : Str} : x.length = (tl x).length := TL.len_tl x
theorem OkX.of {n : Nat} {x : Str} (h1 : ∀ c ∈ tl x, c < 0x110000) (h2 : (tl x).length ≤ n) : OkX n x := ⟨okS_iff.mpr h1, by rw [len_tl]; exact h2⟩
theorem OkX.cp {n : Nat} {x : Str} (h : OkX n x) : ∀ c ∈ tl x, c < 0x110000 := okS_iff.mp h.ok
theorem OkX.tln {n : Nat} {x : Str} (h : OkX n x) : (tl x).length ≤ n := by rw [← len_tl]; exact h.len
theorem tl_cut {x : Str} {lo hi : Option Int} : tl (L2.cutS x lo hi) = ((tl x).drop (HT.sIx x.length 0 lo)).take (HT.sIx x.length x.length hi - HT.sIx x.length 0 lo) := rfl
theorem OkX.cut {n : Nat} {x : Str} {lo hi : Option Int} (h : OkX n x) : OkX n (L2.cutS x lo hi) := by
  refine .of (fun c hc => h.cp c ?_) ?_
  · rw [tl_cut] at hc; exact List.mem_of_mem_drop (List.mem_of_mem_take hc)
  · rw [tl_cut, List.length_take, List.length_drop]; have := h.tln; omega
theorem OkX.app {m n : Nat} {x y : Str} (h : OkX m x) (k : OkX n y) : OkX (m + n) (x ++ y) := by
  refine .of (fun c hc => ?_) ?_
  · rw [TL.tl_append] at hc
    rcases List.mem_append.mp hc with z | z
    · exact h.cp c z
    · exact k.cp c z
  · rw [TL.tl_append, List.length_append]
    have := h.tln; have := k.tln; omega
/-! split, partition by lists -/
theorem spl_mem {T : List Nat} : ∀ (l : List Nat) (k : Nat) (acc p : List Nat), p ∈ TL.spl T k acc l → ∀ c ∈ p, c ∈ acc ∨ c ∈ l
  | [], k, acc, p, h, c, hc => by
    rw [TL.spl_nil, List.mem_singleton] at h
    subst h; exact .inl hc
  | d :: r, 0, acc, p, h, c, hc => by
    by_cases hp : TL.pre T (d :: r) = true
    · rw [TL.spl_hit hp] at h
      rcases List.mem_cons.mp h with rfl | h
      · exact .inl hc
      · rcases spl_mem r _ _ p h c hc with z | z
        · cases z
        · exact .inr (List.mem_cons_of_mem _ z)
    · rw [TL.spl_miss (by simpa using hp)] at h
      rcases spl_mem r _ _ p h c hc with z | z
      · rcases List.mem_append.mp z with z | z
        · exact .inl z
        · rw [List.mem_singleton] at z; subst z; exact .inr List.mem_cons_self
      · exact .inr (List.mem_cons_of_mem _ z)
  | d :: r, k + 1, acc, p, h, c, hc => by
    rcases spl_mem r k acc p h c hc with z | z
    · exact .inl z
    · exact .inr (List.mem_cons_of_mem _ z)
theorem spl_len {T : List Nat} : ∀ (l : List Nat) (k : Nat) (acc : List Nat), (TL.spl T k acc l).length ≤ l.length + 1 ∧ (∀ p ∈ TL.spl T k acc l, p.length ≤ acc.length + l.length) ∧ TL.spl T k acc l ≠ []
  | [], k, acc => by
    rw [TL.spl_nil]
    exact ⟨by simp, fun p h => by rw [List.mem_singleton] at h; subst h; simp, by simp⟩
  | d :: r, 0, acc => by
    by_cases hp : TL.pre T (d :: r) = true
    · rw [TL.spl_hit hp]
      obtain ⟨h1, h2, h3⟩ := spl_len (T := T) r (T.length - 1) []
      refine ⟨by rw [List.length_cons, List.length_cons]; omega, fun p h => ?_, by simp⟩
      rcases List.mem_cons.mp h with rfl | h
      · omega
      · have := h2 p h; simp only [List.length_nil, List.length_cons] at this ⊢; omega
    · rw [TL.spl_miss (by simpa using hp)]
      obtain ⟨h1, h2, h3⟩ := spl_len (T := T) r 0 (acc ++ [d])
      refine ⟨by rw [List.length_cons]; omega, fun p h => ?_, h3⟩
      have := h2 p h; rw [List.length_append, List.length_singleton] at this; rw [List.length_cons]; omega
  | d :: r, k + 1, acc => by
    obtain ⟨h1, h2, h3⟩ := spl_len (T := T) r k acc
    exact ⟨by show (TL.spl T k acc r).length ≤ _; rw [List.length_cons]; omega, fun p h => by have := h2 p h; rw [List.length_cons]; omega, h3⟩
/-- a separator: not empty, plain -/
structure Sep (y : Str) : Prop where
  ne : tl y ≠ []
  asc : y.cps.all (· < 256) = true
theorem Sep.len {y : Str} (h : Sep y) : (y.length == 0) = false := by
  have := h.ne
  rw [len_tl]
  cases q : tl y with
  | nil => exact absurd q this
  | cons a b => rfl
theorem split_tl {x y : Str} (h : Sep y) : (PySem.Txt.split x y).map tl = TL.spl (tl y) 0 [] (tl x) := TL.split_spl x y h.ne (TL.kind_ok h.asc)
theorem split_ok {n : Nat} {x y : Str} (h : Sep y) (hx : OkX n x) : (PySem.Txt.split x y).length ≤ n + 1 ∧ (∀ p ∈ PySem.Txt.split x y, OkX n p) ∧ PySem.Txt.split x y ≠ [] := by
  have e := split_tl (x := x) h
  obtain ⟨h1, h2, h3⟩ := spl_len (T := tl y) (tl x) 0 []
  have hl := hx.tln
  refine ⟨?_, fun p hp => ?_, fun z => ?_⟩
  · have : ((PySem.Txt.split x y).map tl).length = (PySem.Txt.split x y).length := List.length_map ..
    rw [← this, e]; omega
  · have hm : tl p ∈ TL.spl (tl y) 0 [] (tl x) := by rw [← e]; exact List.mem_map.mpr ⟨p, hp, rfl⟩
    refine .of (fun c hc => ?_) ?_
    · rcases spl_mem (tl x) 0 [] _ hm c hc with z | z
      · cases z
      · exact hx.cp c z
    · have := h2 _ hm
      simp only [List.length_nil] at this; omega
  · rw [z] at e; exact h3 e.symm
theorem mem_cut {s : Nat} : ∀ {l : List Nat}, s ∈ l → ∃ a b, l = a ++ ([s] ++ b) ∧ s ∉ a
  | c :: l, h => by
    by_cases hc : c = s
    · exact ⟨[], l, by rw [hc]; rfl, by simp⟩
    · have : s ∈ l := by
        rcases List.mem_cons.mp h with z | z
        · exact absurd z.symm hc
        · exact z
      obtain ⟨a, b, e, hn⟩ := mem_cut this
      exact ⟨c :: a, b, by rw [e]; rfl, fun z => by
        rcases List.mem_cons.mp z with z | z
        · exact hc z.symm
        · exact hn z⟩
/-- by one sign: what partition and split do -/
theorem cut_at {x y : Str} {s : Nat} (hy : tl y = [s]) (h : Sep y) :
    (s ∉ tl x ∧ PySem.Txt.partition x y = (x, Str.empty, Str.empty) ∧ PySem.Txt.split x y = [x]) ∨
    (∃ a b : Str, tl x = tl a ++ s :: tl b ∧ s ∉ tl a ∧ PySem.Txt.partition x y = (a, y, b) ∧ PySem.Txt.split x y = a :: PySem.Txt.split b y) := by
  have e := split_tl (x := x) h
  rw [hy] at e
  by_cases hm : s ∈ tl x
  · obtain ⟨a, b, hl, hn⟩ := mem_cut hm
    refine .inr ⟨⟨a.toArray⟩, ⟨b.toArray⟩, hl, hn, ?_, ?_⟩
    · rw [TL.partition_par x y h.ne, hy, hl, TL.par_part1 (S := []) hn]
      rfl
    · refine TL.map_tl_inj ?_
      rw [e, hl, TL.spl_part1 (S := []) hn, List.map_cons, split_tl h, hy]
      rfl
  · refine .inl ⟨hm, ?_, ?_⟩
    · rw [TL.partition_par x y h.ne, hy, TL.par_none1 (S := []) hm]
    · refine TL.map_tl_inj ?_
      rw [e, TL.spl_last1 (S := []) hm]
      rfl
theorem str_eq {x y : Str} : (x == y) = true ↔ tl x = tl y := by
  rw [beq_iff_eq]
  exact ⟨fun h => by rw [h], TL.ext_tl⟩
theorem str_ne {x y : Str} : (x == y) = false ↔ tl x ≠ tl y := by
  rw [beq_eq_false_iff_ne]
  exact ⟨fun h e => h (TL.ext_tl e), fun h e => h (by rw [e])⟩
/-- a comprehension with a test, that changes nothing -/
theorem Sat_lcF {vs : List Nat} {gt : Tgt} {t : DenT} {f : Den} {e : Env} {S1 : Store} {xs : List D} {E : Nat → D → Store → Prop} {Q : D → Store → Prop} (p : D → Bool) (φ : D → D)
    (hs : ∀ x ∈ xs, ∀ S', ∃ e1, gt x (wipeE e vs) S' = some e1 ∧ t e1 S' = .ok (p x) S' ∧ (p x = true → Sat (f e1 S') (fun d S2 => d = φ x ∧ S2 = S') (fun _ _ _ => False))) (hn : ∀ x ∈ xs, noRef (φ x) = true) (hl : xs.length ≤ sizeLine)
    (fin : Q (.lst ((xs.filter p).map φ)) S1) : Sat (lcK vs gt t f e (wkL xs, xs.length) S1) Q E := by
  refine Sat_lcK (fun i acc S' => acc = ((xs.take i).filter p).map φ ∧ S' = S1 ++ [.lst acc]) ⟨rfl, rfl⟩ ?_ ?_
  · rintro i x acc S' hx ⟨h1, h2⟩
    subst h1 h2
    have hi := (List.getElem?_eq_some_iff.mp hx).1
    have hxi := (List.getElem?_eq_some_iff.mp hx).2
    obtain ⟨e1, g1, g2, g3⟩ := hs x (by rw [← hxi]; exact List.getElem_mem hi) (S1 ++ [.lst (((xs.take i).filter p).map φ)])
    refine ⟨e1, g1, ?_⟩
    rw [g2]
    show (if p x = true then _ else _)
    have ht : (xs.take (i + 1)).filter p = (xs.take i).filter p ++ (if p x = true then [x] else []) := by
      rw [List.take_succ_eq_append_getElem hi, List.filter_append, hxi]
      congr 1
      by_cases hp : p x = true <;> simp [hp]
    by_cases hp : p x = true
    · rw [if_pos hp]
      refine Sat_use0 (g3 hp) ?_
      rintro d S2 ⟨h1, h2⟩
      subst h1 h2
      refine ⟨by rw [List.getElem?_append_right (Nat.le_refl _), Nat.sub_self]; rfl, ?_, ?_, ?_⟩
      · have h1 := List.length_filter_le p (xs.take i)
        rw [List.length_map]
        rw [List.length_take] at h1
        omega
      · rw [ht, if_pos hp, List.map_append]; rfl
      · rw [List.set_append_right _ _ (Nat.le_refl _), Nat.sub_self]; rfl
    · rw [if_neg hp]
      rw [if_neg hp, List.append_nil] at ht
      rw [ht]
      exact ⟨rfl, rfl⟩
  · rintro acc S' ⟨h1, h2⟩
    subst h1 h2
    rw [List.take_length]
    refine ⟨by rw [List.length_append]; rfl, by rw [List.getElem?_append_right (Nat.le_refl _), Nat.sub_self]; rfl, noRefL_map fun x hx => hn x (List.mem_filter.mp hx).1, Old.refl _ _, ?_⟩
    rw [List.take_left]
    exact fin
end Py

set_option maxHeartbeats 4000000
/-! PyBt: the bag [digits, base, count]: at most N draws so far. -/
namespace Py
open PySem (Str sizeLine)
def PotC (N : Nat) (S : Store) (p : Nat) : Prop := ∃ a b c : Int, S[p]? = some (.lst [.int a, .int b, .int c]) ∧ 0 ≤ a ∧ 0 ≤ b ∧ b < 1000000000000000000000000000000000000 ∧ 0 ≤ c ∧ c ≤ N
theorem PotC.lt {N : Nat} {S : Store} {p : Nat} (h : PotC N S p) : p < S.length := by
  obtain ⟨a, b, c, h, _⟩ := h
  exact lt_of_get h
theorem PotC.app {N : Nat} {S T : Store} {p : Nat} (h : PotC N S p) : PotC N (S ++ T) p := by
  have hl := h.lt
  obtain ⟨a, b, c, h, r⟩ := h
  exact ⟨a, b, c, by rw [List.getElem?_append_left hl]; exact h, r⟩
theorem PotC.same {N : Nat} {S S' : Store} {p : Nat} (h : PotC N S p) (e : S'[p]? = S[p]?) : PotC N S' p := by
  obtain ⟨a, b, c, h, r⟩ := h
  exact ⟨a, b, c, e.trans h, r⟩
theorem PotC.mono {N M : Nat} {S : Store} {p : Nat} (h : PotC N S p) (l : N ≤ M) : PotC M S p := by
  obtain ⟨a, b, c, h, h1, h2, h3, h4, h5⟩ := h
  exact ⟨a, b, c, h, h1, h2, h3, h4, by omega⟩
theorem PotC.take {N : Nat} {S' : Store} {p m : Nat} (hP : PotC N S' p) (h : p < m) : PotC N (S'.take m) p := hP.same (by rw [List.getElem?_take_of_lt h])
theorem PotC.old {N : Nat} {S S' : Store} {p : Nat} (hP : PotC N S' p) (h : ∀ k, k < S.length → k ≠ p → S'[k]? = S[k]?) : Old S S' := by
  intro k hk
  by_cases hkp : k = p
  · subst hkp
    obtain ⟨a, b, c, g, _⟩ := hP
    exact .inr ⟨_, g, mapRL_no (noRefL_ints (l := [a, b, c]))⟩
  · exact .inl (h k hk hkp)
def takeG (pf : Op2) (u v : Int) (G31 G33 G7 : Den) : DenS :=
  (sSeq (sIf (tVal (eBin oGt (eBin oIdx (eVar 0) (eC (.int 0))) (eC (.int 0))))
    (sSeq (sSet 2 (eBin oMod (eFn oInt (dCons (eBin oIdx (eVar 0) (eC (.int 0))) dNil)) (eVar 1)))
    (sSeq (sExpr (eSetI (eBin oFdiv (eBin oIdx (eVar 0) (eC (.int 0))) (eVar 1)) (eVar 0) (eC (.int 0))))
    (sRet (eVar 2))))
    sPass)
    (sSeq (sExpr (eSetI (eBin oCat (eBin oIdx (eVar 0) (eC (.int 2))) (eC (.int 1))) (eVar 0) (eC (.int 2))))
    (sSeq (sSet 3 (eBin oMod (eFn oInt (dCons (eBin pf (eBin oCat (eBin oIdx (eVar 0) (eC (.int 1))) (eBin oRep (eC (.int u)) (eBin oIdx (eVar 0) (eC (.int 2))))) (eC (.int 3))) dNil)) G31))
    (sSeq (sSet 3 (eBin oMod (eFn oInt (dCons (eBin pf (eBin oCat (eVar 3) (eC (.int v))) (eC (.int 3))) dNil)) G33))
    (sRet (eBin oMod (eFn oInt (dCons (eBin oFdiv (eVar 3) G7) dNil)) (eVar 1)))))))
def takeC (u v : Int) : DenS := takeG oPowW u v (eBin oCat (eBin oPow (eC (.int 10)) (eC (.int 31))) (eC (.int 33))) (eBin oCat (eBin oPow (eC (.int 10)) (eC (.int 33))) (eC (.int 33))) (eBin oPow (eC (.int 10)) (eC (.int 7)))
theorem pw_ok {a : Int} {S : Store} (h : a.natAbs < 2 ^ 1000) : oPowW (.int a) (.int 3) S = .ok (.int (a ^ 3)) S := by
  have hb := bits_lt h
  unfold oPowW
  dsimp only
  rw [if_pos ⟨by omega, by omega⟩, show (3 : Int).toNat = 3 from rfl]
theorem pow7 {S : Store} : oPow (.int 10) (.int 7) S = .ok (.int 10000000) S := by rw [oPow_i (by decide)]; rfl
theorem pow31 {S : Store} : oPow (.int 10) (.int 31) S = .ok (.int 10000000000000000000000000000000) S := by rw [oPow_i (by decide)]; rfl
theorem pow33 {S : Store} : oPow (.int 10) (.int 33) S = .ok (.int 1000000000000000000000000000000000) S := by rw [oPow_i (by decide)]; rfl
theorem bag_m1 {u c : Int} (hu : 0 ≤ u ∧ u < 1000000000000) (hc : 0 ≤ c ∧ c ≤ 1000000) : mulOk u (c + 1) = true := mulOk_small (sm (B := 1000000000000) (by omega) (by decide)) (sm (B := 10000000) (by omega) (by decide))
theorem bag_q1 {b u c : Int} (hb : 0 ≤ b) (hb2 : b < 1000000000000000000000000000000000000) (hu : 0 ≤ u ∧ u < 1000000000000) (hc : 0 ≤ c ∧ c ≤ 1000000) : (b + u * (c + 1)).natAbs < 2 ^ 1000 := by
  have huc : (u * (c + 1)).natAbs ≤ 1000000000000 * 10000000 := by
    rw [Int.natAbs_mul]
    exact Nat.mul_le_mul (by omega) (by omega)
  have h2 := Int.natAbs_add_le b (u * (c + 1))
  refine sm (B := 2000000000000000000000000000000000000) ?_ (by decide)
  generalize u * (c + 1) = z at *
  omega
theorem bag_q2 {y v : Int} (y0 : 0 ≤ y) (y1 : y < 10000000000000000000000000000033) (hv : 0 ≤ v ∧ v < 1000000000000) : (y + v).natAbs < 2 ^ 1000 := sm (B := 20000000000000000000000000000033) (by omega) (by decide)
theorem e31 : (10000000000000000000000000000000 : Int) + 33 = 10000000000000000000000000000033 := rfl
theorem e33 : (1000000000000000000000000000000000 : Int) + 33 = 1000000000000000000000000000000033 := rfl
theorem l31 : (0 : Int) < 10000000000000000000000000000033 := by decide
theorem l33 : (0 : Int) < 1000000000000000000000000000000033 := by decide
theorem take_core {N : Nat} {S : Store} {p : Nat} {m u v M1 M2 M3 : Int} {G31 G33 G7 : Den} {pf : Op2} (hpf : ∀ {a : Int} {S : Store}, a.natAbs < 2 ^ 1000 → pf (.int a) (.int 3) S = .ok (.int (a ^ 3)) S) (hP : PotC N S p) (h0 : 0 < m) (hdm : divOk m = true) (hN : N ≤ 1000000) (hu : 0 ≤ u ∧ u < 1000000000000)
    (d31 : ∀ e S, G31 e S = .ok (.int M1) S) (d33 : ∀ e S, G33 e S = .ok (.int M2) S) (d7 : ∀ e S, G7 e S = .ok (.int M3) S) (l1 : 0 < M1) (l2 : 0 < M2) (e8 : divOk M3 = true)
    (q2 : ∀ y, 0 ≤ y → y < M1 → (y + v).natAbs < 2 ^ 1000) :
    ∃ w S', runBody (takeG pf u v G31 G33 G7) 4 [.ref p, .int m] S = .ok (.int w) S' ∧ 0 ≤ w ∧ w < m ∧ PotC (N + 1) S' p ∧ Fr1 S S' p := by
  have hm0 : m ≠ 0 := by omega
  obtain ⟨a, b, c, g, ha, hb, hb2, hc, hc2⟩ := id hP
  unfold runBody takeG
  simp only [List.map_cons, List.map_nil, List.length_cons, List.length_nil, List.replicate, List.cons_append, List.nil_append]
  by_cases hr : 0 < a
  · have g1 : (S.set p (.lst [.int (a.fdiv m), .int b, .int c]))[p]? = some (.lst [.int (a.fdiv m), .int b, .int c]) := List.getElem?_set_self (lt_of_get g)
    refine ⟨a.fmod m, _, ?_, Int.fmod_nonneg_of_pos _ h0, Int.fmod_lt_of_pos _ h0, ⟨_, _, _, g1, Int.fdiv_nonneg ha (by omega), hb, hb2, hc, by omega⟩, .set⟩
    simp only [sSeq_ap, sIf_ap, tVal_ap, eBin_ap, eVar_c0, eVar_c, eC_ap, R.bind, idx_ref g atI_c0, oGt_i, hr, decide_true, if_true, sSet_ap, eFn_ap, dCons_ap, dNil_ap, oInt_i, oMod_i hm0, List.set, sExpr_ap, eSetI_ap, oFdiv_i hdm, chg_at g kSet_c0, sRet_ap]
  · have g1 : (S.set p (.lst [.int a, .int b, .int (c + 1)]))[p]? = some (.lst [.int a, .int b, .int (c + 1)]) := List.getElem?_set_self (lt_of_get g)
    have m1 := bag_m1 hu (c := c) ⟨hc, by omega⟩
    have q1 := bag_q1 hb hb2 hu (c := c) ⟨hc, by omega⟩
    have y0 := Int.fmod_nonneg_of_pos ((b + u * (c + 1)) ^ 3) l1
    have y1 := Int.fmod_lt_of_pos ((b + u * (c + 1)) ^ 3) l1
    have k1 := hpf (S := S.set p (.lst [.int a, .int b, .int (c + 1)])) q1
    generalize hy : ((b + u * (c + 1)) ^ 3).fmod M1 = y at y0 y1
    generalize (b + u * (c + 1)) ^ 3 = Y at k1 hy
    have k2 := hpf (S := S.set p (.lst [.int a, .int b, .int (c + 1)])) (q2 y y0 y1)
    generalize (y + v) ^ 3 = Z at k2
    generalize hz : Z.fmod M2 = z
    refine ⟨(z.fdiv M3).fmod m, _, ?_, Int.fmod_nonneg_of_pos _ h0, Int.fmod_lt_of_pos _ h0, ⟨_, _, _, g1, ha, hb, hb2, by omega, by omega⟩, .set⟩
    have s0 : (sIf (tVal (eBin oGt (eBin oIdx (eVar 0) (eC (.int 0))) (eC (.int 0))))
    (sSeq (sSet 2 (eBin oMod (eFn oInt (dCons (eBin oIdx (eVar 0) (eC (.int 0))) dNil)) (eVar 1)))
    (sSeq (sExpr (eSetI (eBin oFdiv (eBin oIdx (eVar 0) (eC (.int 0))) (eVar 1)) (eVar 0) (eC (.int 0))))
    (sRet (eVar 2))))
    sPass) [some (.ref p), some (.int m), none, none] S = .next [some (.ref p), some (.int m), none, none] S := by
      simp only [sIf_ap, tVal_ap, eBin_ap, eVar_c0, eVar_c, eC_ap, R.bind, idx_ref g atI_c0, oGt_i, hr, decide_false, Bool.false_eq_true, if_false, sPass_ap]
    have s1 : sExpr (eSetI (eBin oCat (eBin oIdx (eVar 0) (eC (.int 2))) (eC (.int 1))) (eVar 0) (eC (.int 2))) [some (.ref p), some (.int m), none, none] S = .next [some (.ref p), some (.int m), none, none] (S.set p (.lst [.int a, .int b, .int (c + 1)])) := by
      simp only [sExpr_ap, eSetI_ap, eBin_ap, eVar_c0, eVar_c, eC_ap, R.bind, idx_ref g atI_c2, oCat_i, chg_at g kSet_c2]
    generalize S.set p (.lst [.int a, .int b, .int (c + 1)]) = S1 at *
    have s2 : sSet 3 (eBin oMod (eFn oInt (dCons (eBin pf (eBin oCat (eBin oIdx (eVar 0) (eC (.int 1))) (eBin oRep (eC (.int u)) (eBin oIdx (eVar 0) (eC (.int 2))))) (eC (.int 3))) dNil)) G31) [some (.ref p), some (.int m), none, none] S1 = .next [some (.ref p), some (.int m), none, some (.int y)] S1 := by
      simp only [sSet_ap, eFn_ap, dCons_ap, dNil_ap, eBin_ap, eVar_c0, eVar_c, eC_ap, R.bind, idx_ref g1 atI_c1, idx_ref g1 atI_c2, oRep_i m1, oCat_i, k1, oInt_i, d31, modOk l1, hy, List.set]
    have s3 : sSet 3 (eBin oMod (eFn oInt (dCons (eBin pf (eBin oCat (eVar 3) (eC (.int v))) (eC (.int 3))) dNil)) G33) [some (.ref p), some (.int m), none, some (.int y)] S1 = .next [some (.ref p), some (.int m), none, some (.int z)] S1 := by
      simp only [sSet_ap, eFn_ap, dCons_ap, dNil_ap, eBin_ap, eVar_c0, eVar_c, eC_ap, R.bind, oCat_i, k2, oInt_i, d33, modOk l2, hz, List.set]
    rw [sSeq_ap, s0]
    dsimp only
    rw [sSeq_ap, s1]
    dsimp only
    rw [sSeq_ap, s2]
    dsimp only
    rw [sSeq_ap, s3]
    dsimp only
    simp only [sRet_ap, eFn_ap, dCons_ap, dNil_ap, eBin_ap, eVar_c0, eVar_c, eC_ap, R.bind, d7, oFdiv_i e8, oInt_i, oMod_i hm0]
theorem d31 {e : Env} {S : Store} : eBin oCat (eBin oPow (eC (.int 10)) (eC (.int 31))) (eC (.int 33)) e S = .ok (.int 10000000000000000000000000000033) S := by
  simp only [eBin_ap, eC_ap, R.bind, pow31, oCat_i, e31]
theorem d33 {e : Env} {S : Store} : eBin oCat (eBin oPow (eC (.int 10)) (eC (.int 33))) (eC (.int 33)) e S = .ok (.int 1000000000000000000000000000000033) S := by
  simp only [eBin_ap, eC_ap, R.bind, pow33, oCat_i, e33]
theorem d7 {e : Env} {S : Store} : eBin oPow (eC (.int 10)) (eC (.int 7)) e S = .ok (.int 10000000) S := by
  simp only [eBin_ap, eC_ap, R.bind, pow7]
theorem take_bodyC {N : Nat} {S : Store} {p : Nat} {m u v : Int} (hP : PotC N S p) (h0 : 0 < m) (h1 : m.natAbs < 2 ^ 1000) (hN : N ≤ 1000000) (hu : 0 ≤ u ∧ u < 1000000000000) (hv : 0 ≤ v ∧ v < 1000000000000) :
    ∃ w S', runBody (takeC u v) 4 [.ref p, .int m] S = .ok (.int w) S' ∧ 0 ≤ w ∧ w < m ∧ PotC (N + 1) S' p ∧ Fr1 S S' p :=
  take_core pw_ok hP h0 (divOk_small (by omega) h1) hN hu (fun e S => d31) (fun e S => d33) (fun e S => d7) l31 l33 (by decide) fun y y0 y1 => bag_q2 y0 y1 hv
def TkC (Γ : Calls) (i : Nat) : Prop := ∀ {N : Nat} {S : Store} {p : Nat} {m : Int}, PotC N S p → 0 < m → m.natAbs < 2 ^ 1000 → N ≤ 1000000 → Sat (Γ i [.ref p, .int m] S) (fun d S' => ∃ v : Int, d = .int v ∧ 0 ≤ v ∧ v < m ∧ PotC (N + 1) S' p ∧ Fr1 S S' p) (fun _ _ _ => False)
theorem tkC_of {Γ : Calls} {i : Nat} {u v : Int} (hu : 0 ≤ u ∧ u < 1000000000000) (hv : 0 ≤ v ∧ v < 1000000000000) (h : ∀ args S, Γ i args S = tidy S (runBody (takeC u v) 4 args S)) : TkC Γ i := fun {N S p m} hP h0 h1 hN => by
  obtain ⟨w, S', hr, v0, v1, P', F'⟩ := take_bodyC hP h0 h1 hN hu hv
  rw [h, hr, tidy_same F'.1]
  exact ⟨w, rfl, v0, v1, P', F'⟩
theorem Sat_drawC {vs : List Nat} {gt : Tgt} {f : Den} {e : Env} {S1 : Store} {xs : List D} {p N : Nat} {E : Nat → D → Store → Prop} {Q : D → Store → Prop} (k : Nat) (R : Nat → D → D → Prop) (hP : PotC N S1 p)
    (step : ∀ i x S, xs[i]? = some x → PotC (N + i * k) S p → ∃ e1, gt x (wipeE e vs) S = some e1 ∧ Sat (f e1 S) (fun d S' => PotC (N + i * k + k) S' p ∧ Fr1 S S' p ∧ noRef d = true ∧ R i x d) (fun _ _ _ => False))
    (hl : xs.length ≤ sizeLine)
    (fin : ∀ ds S', ds.length = xs.length → (∀ i x d, xs[i]? = some x → ds[i]? = some d → R i x d) → noRefL ds = true → PotC (N + xs.length * k) S' p → Fr1 S1 S' p → Q (.lst ds) S') : Sat (lcK vs gt tYesD f e (wkL xs, xs.length) S1) Q E := by
  have hp := hP.lt
  refine Sat_lcK (fun i acc S' => acc.length = i ∧ i ≤ xs.length ∧ (∀ j x d, xs[j]? = some x → acc[j]? = some d → R j x d) ∧ noRefL acc = true ∧ PotC (N + i * k) S' p ∧ S'.length = S1.length + 1 ∧ S'[S1.length]? = some (.lst acc) ∧ ∀ k, k < S1.length → k ≠ p → S'[k]? = S1[k]?) ⟨rfl, Nat.zero_le _, fun j x d _ h => (by cases h), rfl, hP.app.mono (by omega), by rw [List.length_append]; rfl, by rw [List.getElem?_append_right (Nat.le_refl _), Nat.sub_self]; rfl, fun k hk _ => List.getElem?_append_left hk⟩ ?_ ?_
  · rintro i x acc S' hx ⟨h1, h1', h2, h3, h4, h5, h6, h7⟩
    have hi := (List.getElem?_eq_some_iff.mp hx).1
    obtain ⟨e1, g1, g2⟩ := step i x S' hx h4
    refine ⟨e1, g1, ?_⟩
    show Sat (f e1 _) _ _
    refine Sat_use0 g2 ?_
    rintro d S2 ⟨P2, F2, nd, hR⟩
    have q6 : S2[S1.length]? = some (.lst acc) := (F2.2 _ (by omega)).trans h6
    have hlen : S2.length = S1.length + 1 := F2.1.trans h5
    have ek : N + i * k + k = N + (i + 1) * k := by rw [Nat.succ_mul]; omega
    rw [ek] at P2
    refine ⟨q6, by omega, by rw [List.length_append, List.length_singleton]; omega, by omega, ?_, noRefL_app h3 (by unfold noRefL; rw [nd]; rfl), P2.same (List.getElem?_set_ne (by omega)), by rw [List.length_set]; exact hlen, List.getElem?_set_self (by omega), fun k hk hkp => ?_⟩
    · intro j x' d' hj hd
      by_cases hji : j < i
      · rw [List.getElem?_append_left (by omega)] at hd
        exact h2 j x' d' hj hd
      · by_cases hj2 : j = i
        · subst hj2
          rw [List.getElem?_append_right (by omega), h1, Nat.sub_self] at hd
          cases hd
          rw [hx] at hj
          cases hj
          exact hR
        · rw [List.getElem?_eq_none (by rw [List.length_append, List.length_singleton]; omega)] at hd
          cases hd
    · rw [List.getElem?_set_ne (by omega), F2.2 k hkp, h7 k hk hkp]
  · rintro acc S' ⟨h1, h1', h2, h3, h4, h5, h6, h7⟩
    refine ⟨h5, h6, h3, h4.old h7, fin acc _ h1 h2 h3 (h4.take hp) ⟨by rw [List.length_take]; omega, fun k hk => ?_⟩⟩
    by_cases hkl : k < S1.length
    · rw [List.getElem?_take_of_lt hkl, h7 k hkl hk]
    · rw [List.getElem?_eq_none (by rw [List.length_take]; omega), List.getElem?_eq_none (by omega)]
end Py

set_option maxHeartbeats 4000000
/-! PyDx: a dict that is changed: {}, d[k] = v of a new key, k in d; keys are texts. -/
namespace Py
open PySem PySem.Spec PyProof.Rows L2
def eDNew : Den := fun _ S => .ok (.ref S.length) (S ++ [.dct [] []])
def kIn (ks : List (Sum Int Str)) (x : Str) : Bool := ks.any fun k => decide (k = .inr x)
def oInD (neg : Bool) : Op2 := fun a b S => match a, b with
  | .str x, .ref n => (match S[n]? with | some (.dct ks _) => .ok (.bl (neg != kIn ks x)) S | _ => .bad)
  | .str x, .dct ks _ => .ok (.bl (neg != kIn ks x)) S
  | _, _ => .bad
/-- d[k] = v, k a text that it does not have yet -/
def putD (k v d : D) (S : Store) : R D := match k, d with
  | .str x, .ref n => (match S[n]? with
    | some (.dct ks vs) => if kIn ks x = false ∧ ks.length < sizeLine then .ok .non (S.set n (.dct (ks ++ [.inr x]) (vs ++ [v]))) else .bad
    | _ => .bad)
  | _, _ => .bad
def eSetD (f o i : Den) : Den := fun e S => (f e S).bind fun v S1 => (o e S1).bind fun d S2 => (i e S2).bind fun k S3 => putD k v d S3
section
variable {X : Cx} {ca : Nat → Addr} {W : WX} {pos p : Pos} {f g h o i : Den} {a b e eo ei : Expr} {w : Wd}
theorem e_dnew : PE X (.Dict [] [] pos) (tE X.K ca W eDNew) := PE.imp pe_dnewK fun σ H Q ⟨w, env, e, s, m, h⟩ => by
  subst e
  intro p hp
  obtain ⟨x, s2⟩ := new_extO (o := .dct [] []) (u := .dK []) s hp ⟨[], rfl, rfl, .nil⟩
  have rr : Rep X.K ca ⟨upd w.H p (.dK []), fun n => if n = w.S.length then p else w.ρ n, w.S ++ [.dct [] []]⟩ (.ref ((fun n => if n = w.S.length then p else w.ρ n) w.S.length)) (.ref w.S.length) := .ref (by show w.S.length < (w.S ++ [O.dct [] []]).length; rw [List.length_append]; exact Nat.lt_succ_self _)
  have ep : (fun n => if n = w.S.length then p else w.ρ n) w.S.length = p := if_pos rfl
  rw [ep] at rr
  exact h _ rfl x s2 (.ref p) rr
theorem any_zip {ks : List (Sum Int Str)} {x : Str} : ∀ {us : List V}, ks.length = us.length → ((ks.zip us).any fun kv => decide (kv.1 = .inr x)) = kIn ks x := by
  unfold kIn
  induction ks with
  | nil => intro us _; rfl
  | cons k ks ih =>
    intro us hl
    cases us with
    | nil => cases hl
    | cons u us =>
      rw [List.zip_cons_cons, List.any_cons, List.any_cons, ih (Nat.succ.inj hl)]
/-- what a value that is a dict stands for -/
theorem get_d {w : Wd} {d : D} {v : V} {x : Str} {neg : Bool} {Q : D → Store → Prop} {E : Nat → D → Store → Prop} (s : SOk X.K ca w) (r : Rep X.K ca w v d) (h : Sat (oInD neg (.str x) d w.S) Q E) :
    ∃ A ov, v = .ref A ∧ DGet w.H A (.str x) ov ∧ Q (.bl (neg != ov.isSome)) w.S := by
  have fin : ∀ {A : Addr} {ks : List (Sum Int Str)} {us : List V}, w.H A = some (.dK (ks.zip us)) → ks.length = us.length → Q (.bl (neg != kIn ks x)) w.S → ∃ ov, DGet w.H A (.str x) ov ∧ Q (.bl (neg != ov.isSome)) w.S := fun hA hl q =>
    ⟨_, DGet.k (k := .inr x) hA, by rw [← valV_any, any_zip hl]; exact q⟩
  cases r with
  | @ref n hn =>
    unfold oInD at h
    dsimp only at h
    cases q : w.S[n]? with
    | none => rw [q] at h; exact h.elim
    | some o =>
      cases o with
      | dead => rw [q] at h; exact h.elim
      | lst xs => rw [q] at h; exact h.elim
      | dct ks ds =>
        rw [q] at h
        obtain ⟨us, hA, hl, _⟩ := s.liv n _ q
        obtain ⟨ov, g, q2⟩ := fin hA hl h
        exact ⟨_, ov, rfl, g, q2⟩
  | @dct A ks us ds hA nM hl ru =>
    obtain ⟨ov, g, q2⟩ := fin hA hl h
    exact ⟨_, ov, rfl, g, q2⟩
  | _ => exact h.elim
theorem m_inD {neg : Bool} : Mute2 (oInD neg) := by
  intro a b S c v S' h; revert h; unfold oInD
  split
  · split <;> simp
  · simp
  · simp
theorem inD_imp {neg : Bool} {σ : St} {H : Hp} {Q : VK} (h : tE X.K ca W (eBin (oInD neg) f g) σ H Q) :
    tE X.K ca W f σ H fun y H1 => tE X.K ca W g σ H1 fun x H2 => ∃ a o, x = .ref a ∧ DGet H2 a y o ∧ Q (.bl (neg != o.isSome)) H2 := by
  obtain ⟨w, env, e, s, m, h⟩ := h
  refine tE_bind (Qb := fun w => QV X.K ca w Q) e s m h (fun e q => QV.later e q) fun w1 d v s1 m1 r e1 h1 => ?_
  refine tE_bind (Qb := fun w => QV X.K ca w Q) rfl s1 m1 h1 (fun e q => QV.later e q) fun w2 d2 v2 s2 m2 r2 e2 h2 => ?_
  have r1 := r.mono e2 s1
  cases r1 with
  | str x =>
    obtain ⟨A, ov, e3, gg, q⟩ := get_d s2 r2 (h2.noErr (E' := fun _ _ _ => False) (m_inD _ _ _))
    exact ⟨A, ov, e3, gg, sat_here (d := .bl (neg != ov.isSome)) s2 (by exact q) (.bl _)⟩
  | _ => exact h2.elim
theorem e_inD (hu : X.A.units + 1 < cLine) (ha : PE X a (tE X.K ca W f)) (hb : PE X b (tE X.K ca W g)) (h1 : behindInMarks .In b = false := by rfl) : PE X (.Compare a [.In] [b] pos) (tE X.K ca W (eBin (oInD false) f g)) :=
  PE.imp (pe_cmp (pc_din hu ha hb) h1) fun σ H Q h => by
    have z := inD_imp h
    simpa [tDIn] using z
theorem e_ninD (hu : X.A.units + 1 < cLine) (ha : PE X a (tE X.K ca W f)) (hb : PE X b (tE X.K ca W g)) (h1 : behindInMarks .NotIn b = false := by rfl) : PE X (.Compare a [.NotIn] [b] pos) (tE X.K ca W (eBin (oInD true) f g)) :=
  PE.imp (pe_cmp (pc_dnotin hu ha hb) h1) fun σ H Q h => by
    have z := inD_imp h
    simpa [tDNotIn] using z
theorem tB_inD {neg : Bool} {σ : St} {H : Hp} {Q : Bool → Hp → Prop} (h : tT X.K ca W (tVal (eBin (oInD neg) f g)) σ H Q) : tE X.K ca W (eBin (oInD neg) f g) σ H fun x H' => ∃ k, x = .bl k ∧ Q k H' := by
  obtain ⟨w, env, e, s, m, h⟩ := h
  refine ⟨w, env, e, s, m, ?_⟩
  unfold tVal at h
  cases q : eBin (oInD neg) f g env w.S with
  | bad => rw [q] at h; exact h.elim
  | err c v S => rw [q] at h; exact h
  | ok d S =>
    rw [q] at h
    cases d with
    | bl b =>
      intro w' hS x s' v r
      cases r
      exact ⟨b, rfl, h w' hS x s'⟩
    | _ => exact h.elim
theorem t_inD (hu : X.A.units + 1 < cLine) (ha : PE X a (tE X.K ca W f)) (hb : PE X b (tE X.K ca W g)) (h1 : behindInMarks .In b = false := by rfl) : PT X (.Compare a [.In] [b] pos) (tT X.K ca W (tVal (eBin (oInD false) f g))) :=
  PT.imp (pt_cmp (pc_din hu ha hb) h1) fun σ H Q h => by
    have z := inD_imp (tB_inD h)
    simpa [tDIn, tB] using z
theorem t_ninD (hu : X.A.units + 1 < cLine) (ha : PE X a (tE X.K ca W f)) (hb : PE X b (tE X.K ca W g)) (h1 : behindInMarks .NotIn b = false := by rfl) : PT X (.Compare a [.NotIn] [b] pos) (tT X.K ca W (tVal (eBin (oInD true) f g))) :=
  PT.imp (pt_cmp (pc_dnotin hu ha hb) h1) fun σ H Q h => by
    have z := inD_imp (tB_inD h)
    simpa [tDNotIn, tB] using z
theorem kIn_zip {ks : List (Sum Int Str)} {us : List V} {x : Str} {u : V} (hl : ks.length = us.length) (h : kIn ks x = false) : putK (ks.zip us) (.inr x) u = (ks ++ [(Sum.inr x : Sum Int Str)]).zip (us ++ [u]) := by
  unfold putK
  rw [any_zip hl, h, List.zip_append hl]
  rfl
theorem putD_mute {k v d : D} {S : Store} {c : Nat} {u : D} {S' : Store} : putD k v d S ≠ .err c u S' := by
  unfold putD
  split
  · split
    · split <;> simp
    · simp
  · simp
theorem s_setD (hu : X.A.units + 1 < cLine) (ha : PE X a (tE X.K ca W f)) (ho : PE X eo (tE X.K ca W o)) (hi : PE X ei (tE X.K ca W i))
    (hs : swapsWith a (some (.Subscript eo ei p)) pos.line X.env = pure false := by rfl) : PS X (.Assign [.Subscript eo ei p] a pos) (tS X.K ca W (sExpr (eSetD f o i))) :=
  PS.imp (ps_dput hu ho hi ha hs) fun U σ H ⟨w, env, e, s, m, h⟩ => by
    have key : SatS X.K ca (match (f env w.S).bind fun v S1 => (o env S1).bind fun d S2 => (i env S2).bind fun k S3 => putD k v d S3 with | .ok d S1 => RS.next env S1 | .err c v S1 => .err c v env S1 | .bad => .bad) w U W := h
    refine tE_then (k := fun v S1 => match ((o env S1).bind fun d S2 => (i env S2).bind fun k S3 => putD k v d S3) with | .ok d S1 => RS.next env S1 | .err c v S1 => .err c v env S1 | .bad => .bad) e s m (by
      cases q : f env w.S with
      | ok d S1 => rw [q] at key; exact key
      | err c v S1 => rw [q] at key; exact key
      | bad => rw [q] at key; exact key) fun w1 v vv s1 m1 r1 x1 q1 => ?_
    refine tE_then (f := o) (k := fun d S2 => match ((i env S2).bind fun k S3 => putD k v d S3) with | .ok d S1 => RS.next env S1 | .err c v S1 => .err c v env S1 | .bad => .bad) rfl s1 m1 (by
      cases q : o env w1.S with
      | ok d S1 => rw [q] at q1; exact q1
      | err c v S1 => rw [q] at q1; exact q1
      | bad => rw [q] at q1; exact q1) fun w2 d dv s2 m2 r2 x2 q2 => ?_
    refine tE_then (f := i) (k := fun k S3 => match (putD k v d S3) with | .ok d S1 => RS.next env S1 | .err c v S1 => .err c v env S1 | .bad => .bad) rfl s2 m2 (by
      cases q : i env w2.S with
      | ok d S1 => rw [q] at q2; exact q2
      | err c v S1 => rw [q] at q2; exact q2
      | bad => rw [q] at q2; exact q2) fun w3 k kv s3 m3 r3 x3 q3 => ?_
    have q4 : Sat (putD k v d w3.S) (fun _ S => SatS X.K ca (.next env S) w3 U W) (fun _ _ _ => False) := by
      cases q : putD k v d w3.S with
      | ok d S1 => rw [q] at q3; exact q3
      | err c v S1 => exact absurd q putD_mute
      | bad => rw [q] at q3; exact q3
    have rd := r2.mono x3 s2
    cases r3 with
    | str x =>
      cases rd with
      | @ref n hn =>
        unfold putD at q4
        dsimp only at q4
        cases q : w3.S[n]? with
        | none => rw [q] at q4; exact q4.elim
        | some ob =>
          cases ob with
          | dead => rw [q] at q4; exact q4.elim
          | lst xs => rw [q] at q4; exact q4.elim
          | dct ks ds =>
            rw [q] at q4
            dsimp only at q4
            by_cases hc : kIn ks x = false ∧ ks.length < sizeLine
            · rw [if_pos hc] at q4
              obtain ⟨us, hA, hl, ru⟩ := s3.liv n _ q
              have rv := (r1.mono x2 s1).mono x3 s2
              have hA' : w3.H (w3.ρ n) = some (.dK (ks.zip us)) := hA
              refine ⟨_, _, rfl, DPut.k (k := .inr x) (v := vv) hA' (by rw [List.length_zip, ← hl, Nat.min_self]; exact hc.2), ?_⟩
              rw [kIn_zip hl hc.1]
              obtain ⟨y, sy⟩ := chg_extO (o := .dct (ks ++ [.inr x]) (ds ++ [v])) (u := .dK ((ks ++ [(Sum.inr x : Sum Int Str)]).zip (us ++ [vv]))) s3 q (fun z => by cases z) ⟨us ++ [vv], rfl, by rw [List.length_append, List.length_append, hl]; rfl, ru.append (.cons rv .nil)⟩
              exact q4 _ rfl y sy σ (m3.mono y s3)
            · rw [if_neg hc] at q4; exact q4.elim
      | _ => exact q4.elim
    | _ => exact q4.elim
end
end Py

set_option maxHeartbeats 4000000
/-! PyEx: xs.reverse(), xs.clear() of a list of the store; <= of texts. -/
namespace Py
open PySem PySem.Spec PyProof.Rows L2
def kRev : List D → Option (List D × D) := fun xs => some (xs.reverse, .non)
def kClr : List D → Option (List D × D) := fun _ => some ([], .non)
def eRev (o : Den) : Den := fun e S => (o e S).bind fun d S1 => chg kRev d S1
def eClr (o : Den) : Den := fun e S => (o e S).bind fun d S1 => chg kClr d S1
/-- a text is not behind another one -/
def oLeS : Op2 := fun a b S => match a, b with | .str x, .str y => .ok (.bl (!decide (y.cps.toList < x.cps.toList))) S | _, _ => .bad
theorem m_leS : Mute2 oLeS := by
  intro a b S c v S' h; revert h; unfold oLeS; split <;> simp
section
variable {X : Cx} {ca : Nat → Addr} {W : WX} {pos p apos cpos : Pos} {f g h o i : Den} {a b e eo ei : Expr} {w : Wd}
theorem r_leS : OpR X (compareOp .LtE) (rO2 X.K ca oLeS) := opImp op_le_str fun x y H Q h => by
  obtain ⟨w, dx, dy, e, sk, r1, r2, q⟩ := h
  subst e
  cases r1 <;> first
    | exact q.elim
    | (cases r2 <;> first
        | exact q.elim
        | exact ⟨_, _, rfl, rfl, sat_here sk q (.bl _)⟩)
theorem e_rev (ho : PE X eo (tE X.K ca W o))
    (hbase : attributeBase eo "reverse" X.env (eval eo X.env) = eval eo X.env := by rfl) (hline : (apos.endLine == cpos.line) = true := by rfl) :
    PE X (.Call (.Attribute eo "reverse" apos) [] [] cpos) (tE X.K ca W (eRev o)) :=
  PE.imp (pe_bm0 PySem.F.plainAttrs_list PySem.F.slot_list_reverse PySem.F.type_list_reverse mt_reverse ho hbase hline) fun σ H Q ⟨w, env, e, s, m, h⟩ => by
    refine tE_bind (Qb := fun w => QV X.K ca w Q) e s m h (fun e q => QV.later e q) fun w2 d v s2 m2 r e1 h2 => ?_
    obtain ⟨n, xs, ys, z, vs, k1, k2, k3, k4, k5, q5⟩ := chg_of s2 r h2
    unfold kRev at k5
    cases k5
    obtain ⟨y1, sy⟩ := chg_ext (ys := xs.reverse) (vs := vs.reverse) s2 k2 k4.rev
    subst k1
    exact ⟨tyL (X := X) k3, _, vs, rfl, rfl, k3, q5 _ rfl y1 sy .non .non⟩
theorem e_clr (ho : PE X eo (tE X.K ca W o))
    (hbase : attributeBase eo "clear" X.env (eval eo X.env) = eval eo X.env := by rfl) (hline : (apos.endLine == cpos.line) = true := by rfl) :
    PE X (.Call (.Attribute eo "clear" apos) [] [] cpos) (tE X.K ca W (eClr o)) :=
  PE.imp (pe_bm0 PySem.F.plainAttrs_list PySem.F.slot_list_clear PySem.F.type_list_clear mt_clear ho hbase hline) fun σ H Q ⟨w, env, e, s, m, h⟩ => by
    refine tE_bind (Qb := fun w => QV X.K ca w Q) e s m h (fun e q => QV.later e q) fun w2 d v s2 m2 r e1 h2 => ?_
    obtain ⟨n, xs, ys, z, vs, k1, k2, k3, k4, k5, q5⟩ := chg_of s2 r h2
    unfold kClr at k5
    cases k5
    obtain ⟨y1, sy⟩ := chg_ext (ys := []) (vs := []) s2 k2 .nil
    subst k1
    exact ⟨tyL (X := X) k3, _, vs, rfl, rfl, k3, q5 _ rfl y1 sy .non .non⟩
end
end Py

set_option maxHeartbeats 4000000
/-! PyFx: dict([(k, v), ..]) with texts as keys, as a value that nobody changes. -/
namespace Py
open PySem PySem.Spec PyProof.Rows L2
def putL {α : Type} (ks : List (Sum Int Str)) (us : List α) (k : Sum Int Str) (u : α) : List (Sum Int Str) × List α :=
  if (ks.any fun j => decide (j = k)) = true then (ks, (ks.zip us).map fun p => if p.1 = k then u else p.2) else (ks ++ [k], us ++ [u])
def mergeL {α : Type} (kv : List (Sum Int Str) × List α) (more : List (Sum Int Str × α)) : List (Sum Int Str) × List α := more.foldl (fun acc p => putL acc.1 acc.2 p.1 p.2) kv
/-- the pairs of a row -/
def pairsD : List D → Option (List (Sum Int Str × D))
  | [] => some []
  | .tup [.str x, v] :: ds => (pairsD ds).map ((.inr x, v) :: ·)
  | _ => none
def oDictP : OpN := fun ds S => match ds with
  | [d] => (match (asL d S).bind pairsD with | some ps => .ok (.dct (mergeL ([], []) ps).1 (mergeL ([], []) ps).2) S | none => .bad)
  | _ => .bad
theorem n_dictP : MuteN oDictP := by intro a S c v S' h; unfold oDictP at h; split at h <;> (try split at h) <;> cases h
section
variable {X : Cx} {ca : Nat → Addr} {w : Wd}
theorem putL_len {α : Type} {ks : List (Sum Int Str)} {us : List α} {k : Sum Int Str} {u : α} (hl : ks.length = us.length) : (putL ks us k u).1.length = (putL ks us k u).2.length := by
  unfold putL
  split
  · rw [List.length_map, List.length_zip, ← hl, Nat.min_self]
  · rw [List.length_append, List.length_append, hl]; rfl
theorem putL_fst {α β : Type} {ks : List (Sum Int Str)} {us : List α} {vs : List β} {k : Sum Int Str} {u : α} {v : β} : (putL ks us k u).1 = (putL ks vs k v).1 := by
  unfold putL
  by_cases h : (ks.any fun j => decide (j = k)) = true
  · rw [if_pos h, if_pos h]
  · rw [if_neg h, if_neg h]
theorem zip_any {α : Type} {k : Sum Int Str} : ∀ {ks : List (Sum Int Str)} {us : List α}, ks.length = us.length → ((ks.zip us).any fun kv => decide (kv.1 = k)) = ks.any fun j => decide (j = k)
  | [], _, _ => rfl
  | a :: ks, [], h => by cases h
  | a :: ks, u :: us, h => by rw [List.zip_cons_cons, List.any_cons, List.any_cons, zip_any (Nat.succ.inj h)]
theorem zip_put {k : Sum Int Str} {u : V} : ∀ {ks : List (Sum Int Str)} {us : List V}, ks.length = us.length → ((ks.zip us).map fun kv => if kv.1 = k then (kv.1, u) else kv) = ks.zip ((ks.zip us).map fun p => if p.1 = k then u else p.2)
  | [], _, _ => rfl
  | a :: ks, [], h => by cases h
  | a :: ks, v :: us, h => by
    rw [List.zip_cons_cons, List.map_cons, List.map_cons, List.zip_cons_cons, zip_put (Nat.succ.inj h)]
    congr 1
    by_cases e : a = k <;> simp [e]
theorem putK_zip {ks : List (Sum Int Str)} {us : List V} {k : Sum Int Str} {u : V} (hl : ks.length = us.length) : putK (ks.zip us) k u = (putL ks us k u).1.zip (putL ks us k u).2 := by
  unfold putK putL
  rw [zip_any hl]
  by_cases h : (ks.any fun j => decide (j = k)) = true
  · rw [if_pos h, if_pos h]
    exact zip_put hl
  · rw [if_neg h, if_neg h, List.zip_append hl]
    rfl
theorem mergeK_zip : ∀ {more : List (Sum Int Str × V)} {ks : List (Sum Int Str)} {us : List V}, ks.length = us.length → mergeK (ks.zip us) more = (mergeL (ks, us) more).1.zip (mergeL (ks, us) more).2 ∧ (mergeL (ks, us) more).1.length = (mergeL (ks, us) more).2.length
  | [], ks, us, h => ⟨rfl, h⟩
  | p :: more, ks, us, h => by
    have := mergeK_zip (more := more) (putL_len (k := p.1) (u := p.2) h)
    refine ⟨?_, this.2⟩
    show mergeK (putK (ks.zip us) p.1 p.2) more = _
    rw [putK_zip h]
    exact this.1
theorem zip_repl {k : Sum Int Str} {u : V} {d : D} (r : Rep X.K ca w u d) : ∀ {ks : List (Sum Int Str)} {us : List V} {ds : List D}, RepL X.K ca w us ds → RepL X.K ca w ((ks.zip us).map fun p => if p.1 = k then u else p.2) ((ks.zip ds).map fun p => if p.1 = k then d else p.2)
  | [], us, ds, _ => .nil
  | a :: ks, _, _, .nil => .nil
  | a :: ks, _, _, .cons r1 t => by
    rw [List.zip_cons_cons, List.zip_cons_cons, List.map_cons, List.map_cons]
    refine .cons ?_ (zip_repl r t)
    by_cases e : a = k
    · simpa [e] using r
    · simpa [e] using r1
theorem putL_rep {ks : List (Sum Int Str)} {us : List V} {ds : List D} {k : Sum Int Str} {u : V} {d : D} (r : RepL X.K ca w us ds) (rd : Rep X.K ca w u d) : RepL X.K ca w (putL ks us k u).2 (putL ks ds k d).2 := by
  unfold putL
  by_cases h : (ks.any fun j => decide (j = k)) = true
  · rw [if_pos h, if_pos h]; exact zip_repl rd r
  · rw [if_neg h, if_neg h]; exact r.append (.cons rd .nil)
/-- the pairs, one by one -/
inductive PRep (w : Wd) : List Addr → List (Sum Int Str × V) → List (Sum Int Str × D) → Prop where
  | nil : PRep w [] [] []
  | cons {a : Addr} {as : List Addr} {x : Str} {u : V} {d : D} {ps : List (Sum Int Str × V)} {qs : List (Sum Int Str × D)} : SqT X.K w.H a [.str x, u] → Rep X.K ca w u d → PRep w as ps qs → PRep w (a :: as) ((.inr x, u) :: ps) ((.inr x, d) :: qs)
theorem pairs_rep : ∀ {vs : List V} {ds : List D} {qs : List (Sum Int Str × D)}, RepL X.K ca w vs ds → pairsD ds = some qs → ∃ as ps, vs = as.map V.ref ∧ PRep (X := X) (ca := ca) w as ps qs
  | _, _, qs, .nil, h => by
    unfold pairsD at h; cases h
    exact ⟨[], [], rfl, .nil⟩
  | _, _, qs, .cons (d := d) (ds := ds) r t, h => by
    unfold pairsD at h
    split at h
    · rename_i e; cases e
    · rename_i x v ds' e
      cases e
      cases q : pairsD ds with
      | none => rw [q] at h; cases h
      | some qs' =>
        rw [q] at h
        cases h
        obtain ⟨as, ps, e2, P⟩ := pairs_rep t q
        cases r with
        | @tup a vs _ hs rl =>
          cases rl with
          | cons r1 t1 =>
            cases t1 with
            | cons r2 t2 =>
              cases t2
              cases r1
              exact ⟨a :: as, _, by rw [e2]; rfl, .cons hs r2 P⟩
    · cases h
theorem merge_rep : ∀ {as : List Addr} {ps : List (Sum Int Str × V)} {qs : List (Sum Int Str × D)} {ks : List (Sum Int Str)} {us : List V} {ds : List D}, PRep (X := X) (ca := ca) w as ps qs → RepL X.K ca w us ds →
    (mergeL (ks, us) ps).1 = (mergeL (ks, ds) qs).1 ∧ RepL X.K ca w (mergeL (ks, us) ps).2 (mergeL (ks, ds) qs).2
  | _, _, _, ks, us, ds, .nil, r => ⟨rfl, r⟩
  | _, _, _, ks, us, ds, .cons (x := x) (u := u) (d := d) (ps := ps) (qs := qs) hs rd P, r => by
    have h1 : (putL ks us (.inr x) u).1 = (putL ks ds (.inr x) d).1 := putL_fst
    have := merge_rep (ks := (putL ks us (.inr x) u).1) P (putL_rep (ks := ks) (k := .inr x) r rd)
    have e1 : mergeL (ks, us) ((Sum.inr x, u) :: ps) = mergeL ((putL ks us (.inr x) u).1, (putL ks us (.inr x) u).2) ps := rfl
    have e2 : mergeL (ks, ds) ((Sum.inr x, d) :: qs) = mergeL ((putL ks us (.inr x) u).1, (putL ks ds (.inr x) d).2) qs := by
      show mergeL (putL ks ds (.inr x) d) qs = _
      rw [h1]
    rw [e1, e2]
    exact this
theorem prep_paired : ∀ {as : List Addr} {ps : List (Sum Int Str × V)} {qs : List (Sum Int Str × D)}, PRep (X := X) (ca := ca) w as ps qs → Paired (fun (p : Addr) (kv : Sum Int Str × V) => SqT X.K w.H p [kV kv.1, kv.2]) as ps
  | _, _, _, .nil => .nil
  | _, _, _, .cons hs _ P => .cons hs (prep_paired P)
theorem c_dictP (hc : X.calm = true) : CallR X (.type "dict") (rON X.K ca oDictP) := callImp (call_dictP hc) fun xs H Q h => by
  obtain ⟨w, ds, e, s, r, h⟩ := h
  subst e
  unfold oDictP at h
  cases r with
  | nil => exact h.elim
  | @cons v d _ _ r t =>
    cases t with
    | cons _ _ => exact h.elim
    | nil =>
      dsimp only at h
      cases q : asL d w.S with
      | none => rw [q] at h; exact h.elim
      | some ys =>
        rw [q, Option.bind_some] at h
        cases q2 : pairsD ys with
        | none => rw [q2] at h; exact h.elim
        | some qs =>
          rw [q2] at h
          obtain ⟨a, vs, e1, hA, rl⟩ := asL_rep s r q
          subst e1
          obtain ⟨as, ps, e2, P⟩ := pairs_rep rl q2
          subst e2
          refine ⟨a, as, ps, rfl, .inl (.inl hA), prep_paired P, fun p hp => ?_⟩
          obtain ⟨m1, m2⟩ := merge_rep (ks := []) (us := []) (ds := []) P .nil
          obtain ⟨z1, z2⟩ := mergeK_zip (more := ps) (ks := []) (us := []) rfl
          have z1' : mergeK [] ps = (mergeL ([], []) qs).1.zip (mergeL (([] : List (Sum Int Str)), ([] : List V)) ps).2 := by rw [← m1]; exact z1
          rw [z1']
          have x := Ext.alloc (w := w) (o := .dK ((mergeL ([], []) qs).1.zip (mergeL (([] : List (Sum Int Str)), ([] : List V)) ps).2)) hp
          exact h ⟨upd w.H p _, w.ρ, w.S⟩ rfl x (s.alloc hp) (.ref p) (.dct upd_same (fun m => s.notM0 hp m) (by rw [← m1]; exact z2) (m2.mono x s))
end
end Py

set_option maxHeartbeats 4000000
/-! PyGx: sorted(a list of texts). -/
namespace Py
open PySem PySem.Spec PyProof.Rows L2
def leT (a b : Str) : Bool := !ltCps b.cps.toList a.cps.toList
theorem leT_iff {a b : Str} : leT a b = true ↔ a.cps.toList ≤ b.cps.toList := by
  unfold leT
  rw [ltCps_eq, Bool.not_eq_true', decide_eq_false_iff_not, List.not_lt]
theorem leT_trans (a b c : Str) (h : leT a b = true) (h2 : leT b c = true) : leT a c = true := leT_iff.mpr (List.le_trans (leT_iff.mp h) (leT_iff.mp h2))
theorem leT_total (a b : Str) : (leT a b || leT b a) = true := by
  rw [Bool.or_eq_true]
  by_cases h : leT a b = true
  · exact .inl h
  · refine .inr ?_
    rw [Bool.not_eq_true] at h
    unfold leT at h ⊢
    rw [Bool.not_eq_false', ltCps_eq, decide_eq_true_iff] at h
    rw [ltCps_eq, Bool.not_eq_true', decide_eq_false_iff_not]
    intro z
    exact absurd (List.lt_trans h z) (List.lt_irrefl _)
theorem leT_anti {a b : Str} (h : leT a b = true) (h2 : leT b a = true) : a = b := TL.ext_tl (List.le_antisymm (leT_iff.mp h) (leT_iff.mp h2))
theorem rising_pw : ∀ {r : List Str} {p : Str}, risingS p r = true → (∀ x ∈ r, leT p x = true) ∧ r.Pairwise (fun a b => leT a b = true)
  | [], p, _ => ⟨(fun x hx => by cases hx), List.Pairwise.nil⟩
  | y :: r, p, h => by
    unfold risingS at h
    rw [Bool.and_eq_true] at h
    obtain ⟨h1, h2⟩ := h
    obtain ⟨i1, i2⟩ := rising_pw h2
    have h1' : leT p y = true := h1
    refine ⟨fun x hx => ?_, .cons i1 i2⟩
    rcases List.mem_cons.mp hx with rfl | hx
    · exact h1'
    · exact leT_trans _ _ _ h1' (i1 x hx)
theorem sorted_pw {ys : List Str} (h : sortedS ys = true) : ys.Pairwise (fun a b => leT a b = true) := by
  cases ys with
  | nil => exact .nil
  | cons x r =>
    obtain ⟨i1, i2⟩ := rising_pw (show risingS x r = true from h)
    exact .cons i1 i2
def sortT (ys : List Str) : List Str := ys.mergeSort leT
theorem sortT_one {ys zs : List Str} (hp : zs.Perm ys) (hs : sortedS zs = true) : zs = sortT ys :=
  List.Perm.eq_of_pairwise (fun a b _ _ h h2 => leT_anti h h2) (sorted_pw hs) (List.pairwise_mergeSort leT_trans leT_total ys) (hp.trans (List.mergeSort_perm ys leT).symm)
def oSortS : OpF := fun ds S => match ds with
  | [d] => (match (asL d S).bind isStrs with | some ys => if ys.length < 64 then .ok ((sortT ys).map .str) S else .bad | none => .bad)
  | _ => .bad
theorem n_sortS : MuteF oSortS := by
  intro a S c v S' h; revert h; unfold oSortS
  split
  · split
    · split <;> simp
    · simp
  · simp
section
variable {X : Cx} {ca : Nat → Addr} {w : Wd}
theorem c_sortS : CallR X (.builtin "sorted") (rOF X.K ca oSortS) := callImp cr_sortedS fun xs H Q h => by
  obtain ⟨w, ds, e, s, r, h⟩ := h
  subst e
  unfold oSortS at h
  cases r with
  | nil => exact h.elim
  | @cons v d _ _ r t =>
    cases t with
    | cons _ _ => exact h.elim
    | nil =>
      dsimp only at h
      cases q : asL d w.S with
      | none => rw [q] at h; exact h.elim
      | some ds =>
        rw [q, Option.bind_some] at h
        cases q2 : isStrs ds with
        | none => rw [q2] at h; exact h.elim
        | some ys =>
          rw [q2] at h
          dsimp only at h
          by_cases hl : ys.length < 64
          · rw [if_pos hl] at h
            obtain ⟨a, vs, e1, hA, rl⟩ := asL_rep s r q
            subst e1
            have e2 := strs_rep rl q2
            subst e2
            refine ⟨a, ys, rfl, .inl (.inl hA), hl, fun zs p hp hs hn => ?_⟩
            rw [sortT_one hp hs]
            exact h w rfl (.refl w) s _ p (repL_strs _) hn
          · rw [if_neg hl] at h; exact h.elim
end
end Py

set_option maxHeartbeats 4000000
/-! PyHx: xs[a::k] of a list, k above 0. -/
namespace Py
open PySem PySem.Spec PyProof.Rows L2
def pickL {α : Type} (xs : List α) (lo : Option Int) (st : Int) : List α :=
  (sliceRange (sliceBounds lo none (some st) xs.length).1 (sliceBounds lo none (some st) xs.length).2.1 (sliceBounds lo none (some st) xs.length).2.2).filterMap (xs[·]?)
theorem vals_at {xs : List V} {us : List Value} (r : Vals xs us) : ∀ i : Nat, (∃ x u, xs[i]? = some x ∧ us[i]? = some u ∧ RelV x u) ∨ (xs[i]? = none ∧ us[i]? = none) := by
  induction r with
  | nil => intro i; exact .inr ⟨by simp, by simp⟩
  | cons h t ih =>
    intro i
    cases i with
    | zero => exact .inl ⟨_, _, rfl, rfl, h⟩
    | succ i => exact ih i
theorem vals_pick {xs : List V} {us : List Value} (r : Vals xs us) : ∀ is : List Nat, Vals (is.filterMap (xs[·]?)) (is.filterMap (us[·]?))
  | [] => .nil
  | i :: is => by
    rw [List.filterMap_cons, List.filterMap_cons]
    rcases vals_at r i with ⟨x, u, e1, e2, h⟩ | ⟨e1, e2⟩
    · rw [e1, e2]; exact .cons h (vals_pick r is)
    · rw [e1, e2]; exact vals_pick r is
theorem pick_len {α : Type} (xs : List α) {lo : Option Int} {st : Int} (hs : 1 ≤ st) : (pickL xs lo st).length ≤ xs.length := by
  refine Nat.le_trans (List.length_filterMap_le _ _) ?_
  unfold sliceRange
  rw [List.length_map, List.length_range]
  have hp : st > 0 := by omega
  have e : (sliceBounds lo none (some st) xs.length).2.1 = (xs.length : Int) := by unfold sliceBounds; simp [hp]
  have e2 : (sliceBounds lo none (some st) xs.length).2.2 = st := rfl
  have h0 : 0 ≤ (sliceBounds lo none (some st) xs.length).1 := by
    unfold sliceBounds
    cases lo <;> simp [hp] <;> omega
  rw [e, e2, if_pos hp]
  split
  · rename_i hlt
    have := ceilDiv_le ((xs.length : Int) - (sliceBounds lo none (some st) xs.length).1) st (by omega) hs
    omega
  · simp
def tStepL (K : PySem.W.Frag) (te : TE) (lo : Option Int) (st : Int) : TE := fun σ H Q => te σ H fun x H1 => ∃ a xs, x = .ref a ∧ SqL K H1 a xs ∧ ∀ p, H1 p = none → Q (.ref p) (upd H1 p (.lst (pickL xs lo st)))
theorem pe_stepL {X : Cx} {e : Expr} {te : TE} {lo : Option Expr} {ol : Option Int} {tl : TO} {st : Int} {k : Nat} {p1 p3 pos : Pos} (he : PE X e te) (hl : PO X lo tl) (hl2 : ∀ σ H, tl σ H fun o H2 => o = ol ∧ H2 = H) (hs : 1 ≤ st) :
    PE X (.Subscript e (.Slice lo none (some (.Constant (.int st) k p1)) p3) pos) (tStepL X.K te ol st) := by
  refine ⟨fun pins s σ H Q I h => ?_⟩
  refine Subscript_ (thn (he.run pins s σ H _ I h) fun v s1 ⟨x, H1, I1, r1, q1⟩ => ?_)
  obtain ⟨a, xs, ex, hx, q⟩ := q1
  subst ex
  cases r1
  have hst : PO X (some (.Constant (.int st) k p1)) (tPart (tC (.int st))) := po_some pe_int
  refine wpAny_Slice (thn (hl.run pins s1 σ H1 (fun o H2 => o = ol ∧ H2 = H1) I1 (hl2 σ H1)) fun vl s2 ⟨l, H2, I2, pl, el, e2⟩ => ?_)
  subst el e2
  refine thn (po_none.run pins s2 σ H2 (fun o H3 => o = none ∧ H3 = H2) I2 ⟨rfl, rfl⟩) fun vu s3 ⟨u, H3, I3, pu, eu, e3⟩ => ?_
  subst eu e3
  refine thn (hst.run pins s3 σ H3 (fun o H4 => o = some st ∧ H4 = H3) I3 ⟨st, rfl, rfl, rfl⟩) fun vs s4 ⟨o, H4, I4, ps, eo, e4⟩ => ?_
  subst eo e4
  have I5 : Inv X pins σ H4 { s4 with heap := s4.heap.push { cls := .type "slice", data := .fields #[vl, vu, vs] } } := I4.kept (t' := s4.toks) fun b ob q => Heap.get?_push_of_some _ q
  obtain ⟨its, r, ht, hz⟩ := I5.list hx
  have hlen := r.length
  show wpAny (model X.prog X.w) X.A (subscriptTail e (.Slice lo none (some (.Constant (.int st) k p1)) p3) (.ref a) (.ref s4.heap.objs.size)) (EP X pins σ Q) X.xe { s4 with heap := s4.heap.push { cls := .type "slice", data := .fields #[vl, vu, vs] } }
  refine tail_any (ops := [.ref a, .ref s4.heap.objs.size]) ht.isList.typeIs (PySem.slot_list_getitem.lookup) ?_ (by with_unfolding_all rfl)
  refine wpAny_getItem_list_slice ht.isList (Heap.IsSliceOf.new _ vl vu vs) pl pu ps (by intro z; cases z; omega) ?_ (by rw [List.size_toArray]; omega)
  have ep : slicePick its.toArray l none (some st) = (pickL its l st).toArray := by
    unfold slicePick pickL
    rw [List.size_toArray]
    congr 1
    simp only [List.getElem?_toArray]
  rw [ep]
  have rp : Vals (pickL xs l st) (pickL its l st) := by
    unfold pickL
    rw [← hlen]
    exact vals_pick r _
  refine ⟨.ref _, _, I5.laid (t' := s4.toks) (o := .lst (pickL xs l st)) (fun b ob q => Heap.get?_push_of_some _ q) (Nat.le_refl _) ?_, rfl, q _ (I5.hok.fresh (Nat.le_refl _))⟩
  exact ⟨Nat.le_trans (pick_len xs hs) hz, _, 0, rp, Heap.get?_push_size _ rfl⟩
def dStepL (f : Den) (lo : Option Int) (st : Int) : Dens := fun e S => (f e S).bind fun d S1 => match asL d S1 with | some xs => .ok (pickL xs lo st) S1 | none => .bad
section
variable {X : Cx} {ca : Nat → Addr} {W : WX} {pos : Pos} {f : Den} {a : Expr} {w : Wd}
theorem repL_pick {vs : List V} {ds : List D} (r : RepL X.K ca w vs ds) : ∀ is : List Nat, RepL X.K ca w (is.filterMap (vs[·]?)) (is.filterMap (ds[·]?))
  | [] => .nil
  | i :: is => by
    rw [List.filterMap_cons, List.filterMap_cons]
    have t := repL_pick r is
    by_cases h : i < ds.length
    · obtain ⟨v, e, rv⟩ := r.get (List.getElem?_eq_getElem h)
      rw [e, List.getElem?_eq_getElem h]
      exact .cons rv t
    · have h2 : ¬ i < vs.length := by rw [r.length]; exact h
      rw [List.getElem?_eq_none (by omega), List.getElem?_eq_none (by omega)]
      exact t
theorem f_step {lo : Option Expr} {ol : Option Int} {tl : TO} {st : Int} {k : Nat} {p1 p3 : Pos} (ha : PE X a (tE X.K ca W f)) (hl : PO X lo tl) (hl2 : ∀ σ H, tl σ H fun o H2 => o = ol ∧ H2 = H) (hs : 1 ≤ st) :
    PE X (.Subscript a (.Slice lo none (some (.Constant (.int st) k p1)) p3) pos) (tF X.K ca W (dStepL f ol st)) :=
  PE.imp (pe_stepL ha hl hl2 hs) fun σ H Q ⟨w, env, e, s, m, h⟩ => by
    refine tE_bind (Qb := fun w => QF X.K ca w Q) e s m h (fun e q => QF.later e q) fun w1 d v s1 m1 r x1 h1 => ?_
    cases q : asL d w1.S with
    | none => rw [q] at h1; exact h1.elim
    | some xs =>
      rw [q] at h1
      obtain ⟨A, vs, e1, hA, rl⟩ := asL_rep s1 r q
      subst e1
      refine ⟨A, vs, rfl, .inl (.inl hA), fun p hp => ?_⟩
      have rp : RepL X.K ca w1 (pickL vs ol st) (pickL xs ol st) := by
        unfold pickL
        rw [← rl.length]
        exact repL_pick rl _
      exact h1 w1 rfl (.refl w1) s1 _ p rp hp
theorem lo_none (σ : St) (H : Hp) : tNoPart σ H fun o H2 => o = none ∧ H2 = H := ⟨rfl, rfl⟩
theorem lo_int {c : Int} (σ : St) (H : Hp) : tPart (tC (.int c)) σ H fun o H2 => o = some c ∧ H2 = H := ⟨c, rfl, rfl, rfl⟩
/-- xs[::k], xs[c::k] -/
theorem f_step0 {st : Int} {k : Nat} {p1 p3 : Pos} (ha : PE X a (tE X.K ca W f)) (hs : 1 ≤ st := by decide) :
    PE X (.Subscript a (.Slice none none (some (.Constant (.int st) k p1)) p3) pos) (tF X.K ca W (dStepL f none st)) := f_step ha po_none lo_none hs
theorem f_stepC {st c : Int} {k j : Nat} {p0 p1 p3 : Pos} (ha : PE X a (tE X.K ca W f)) (hs : 1 ≤ st := by decide) :
    PE X (.Subscript a (.Slice (some (.Constant (.int c) j p0)) none (some (.Constant (.int st) k p1)) p3) pos) (tF X.K ca W (dStepL f (some c) st)) := f_step ha (po_some pe_int) lo_int hs
end
end Py

set_option maxHeartbeats 4000000
/-! PyIx: [f for a in A for b in B]. -/
namespace Py
open PySem PySem.Spec PyProof.Rows L2
def lcW2 (g : Tgt) (gi1 : DenI) (g1 : Tgt) (f : Den) (wk : Walk) (e0 : Env) (vs1 : List Nat) (n : Nat) : Nat → Nat → Store → R Unit
  | 0, i, S => match wk i S with | some none => .ok () S | _ => .bad
  | k + 1, i, S => match wk i S with
    | none => .bad
    | some none => .ok () S
    | some (some x) => (match g x e0 S with
      | none => .bad
      | some e1 => (match gi1 e1 S with
        | .ok wn S1 => (match lcW g1 tYesD f wn.1 (wipeE e1 vs1) n wn.2 0 S1 with
          | .ok _ S2 => lcW2 g gi1 g1 f wk e0 vs1 n k (i + 1) S2
          | _ => .bad)
        | _ => .bad))
noncomputable def eLc2 (vs vs1 : List Nat) (gi : DenI) (g : Tgt) (gi1 : DenI) (g1 : Tgt) (f : Den) : Den := fun e S => (gi e S).bind fun w S1 =>
  tidy S1 ((lcW2 g gi1 g1 f w.1 (wipeE e vs) vs1 S1.length w.2 0 (S1 ++ [.lst []])).bind fun _ S2 => .ok (.ref S1.length) S2)
section
variable {X : Cx} {ca : Nat → Addr} {W : WX} {f : Den} {w : Wd}
/-- the inner loop -/
theorem lc_in {vs1 : List Nat} {g1 : Tgt} {wk1 : Walk} {J1 : It} {env : Env} {σ : St} {n nn : Nat} {A : Addr} {Nx : Hp → Prop} {w1 : Wd} (s1 : SOk X.K ca w1) (m : Sim X.K ca w1 env σ) (hJ : ItOk X.K ca w1 J1 wk1) (hn1 : n < w1.S.length) (hρ : w1.ρ n = A)
    (h : Sat (lcW g1 tYesD f wk1 (wipeE env vs1) n nn 0 w1.S) (fun _ S2 => Aft X.K ca w1 S2 fun w' => Nx w'.H) (fun _ _ _ => False)) :
    ∃ W1 : Nat → Nat → Hp → Prop, (∃ m, W1 0 m w1.H) ∧ ∀ j k H, W1 j k H →
      (J1.stop j H ∧ Nx H) ∨ (J1.go j H ∧ ∃ Nx1 : Hp → Prop, (∀ H', Nx1 H' → ∃ k', k' < k ∧ W1 (j + 1) k' H') ∧ ∀ x H', J1.yld j H x H' → tGv X.K ca vs1 g1 x (wipe σ vs1) H' fun σ3 H5 => wipe σ3 vs1 = wipe σ vs1 ∧ tT X.K ca W0 tYesD σ3 H5 fun b H6 =>
        if b = true then tE X.K ca W0 f σ3 H6 fun y H7 => ∃ acc, H7 A = some (.lst acc) ∧ acc.length < sizeLine ∧ Nx1 (upd H7 A (.lst (acc ++ [y]))) else Nx1 H6) := by
  refine ⟨fun i k H => ∃ w2, w2.H = H ∧ Ext w1 w2 ∧ SOk X.K ca w2 ∧ Sat (lcW g1 tYesD f wk1 (wipeE env vs1) n k i w2.S) (fun _ S2 => Aft X.K ca w2 S2 fun w' => Nx w'.H) (fun _ _ _ => False), ⟨nn, w1, rfl, .refl w1, s1, h⟩, ?_⟩
  rintro i k H ⟨w2, rfl, x2, s2, h2⟩
  have stop : wk1 i w2.S = some none → (Aft X.K ca w2 w2.S fun w' => Nx w'.H) → J1.stop i w2.H ∧ Nx w2.H := fun z q =>
    ⟨hJ.stops i w2 x2 s2 z, Aft.here (P := fun w' => Nx w'.H) q (.refl w2) s2⟩
  cases k with
  | zero =>
    unfold lcW at h2
    cases z : wk1 i w2.S with
    | none => rw [z] at h2; exact h2.elim
    | some o =>
      cases o with
      | some d => rw [z] at h2; exact h2.elim
      | none => rw [z] at h2; exact .inl (stop z h2)
  | succ k =>
    unfold lcW at h2
    cases z : wk1 i w2.S with
    | none => rw [z] at h2; exact h2.elim
    | some o =>
      cases o with
      | none => rw [z] at h2; exact .inl (stop z h2)
      | some d =>
        rw [z] at h2
        dsimp only at h2
        refine .inr ⟨hJ.goes i w2 d x2 s2 z, fun H' => ∃ w3, w3.H = H' ∧ Ext w1 w3 ∧ SOk X.K ca w3 ∧ Sat (lcW g1 tYesD f wk1 (wipeE env vs1) n k (i + 1) w3.S) (fun _ S2 => Aft X.K ca w3 S2 fun w' => Nx w'.H) (fun _ _ _ => False),
          fun H' q => ⟨k, Nat.lt_succ_self k, q⟩, fun x H' y => ?_⟩
        obtain ⟨w3, eH, eS, x3, s3, rd⟩ := hJ.yields i w2 d x H' x2 s2 z y
        rw [← eS] at h2
        cases zt : g1 d (wipeE env vs1) w3.S with
        | none => rw [zt] at h2; exact h2.elim
        | some e1 =>
          rw [zt] at h2
          dsimp only [tYesD] at h2
          have mw := (m.mono (x2.trans x3) s1).wipe vs1
          refine ⟨w3, _, d, e1, eH, s3, mw, rd, zt, fun σ2 m2 k2 => ⟨k2.trans wipe_wipe, w3, e1, eH, s3, m2, ?_⟩⟩
          intro w4 hS x4 s4
          rw [← hS] at h2
          refine iteT ⟨w4, e1, rfl, s4, m2.mono x4 s3, ?_⟩
          cases zf : f e1 w4.S with
          | bad => rw [zf] at h2; exact h2.elim
          | err c v S1 => rw [zf] at h2; exact h2.elim
          | ok dy S2 =>
            rw [zf] at h2
            intro w5 hS5 x5 s5 yv ry
            subst hS5
            dsimp only at h2
            cases zs : w5.S[n]? with
            | none => rw [zs] at h2; exact h2.elim
            | some u =>
              cases u with
              | dead => rw [zs] at h2; exact h2.elim
              | dct _ _ => rw [zs] at h2; exact h2.elim
              | lst acc =>
                rw [zs] at h2
                dsimp only at h2
                by_cases hl : acc.length < sizeLine
                · rw [if_pos hl] at h2
                  obtain ⟨us, hu, ru⟩ := s5.live _ acc zs
                  have e5 : w5.ρ n = A := (((x2.trans (x3.trans (x4.trans x5)))).rho _ hn1).trans hρ
                  obtain ⟨y6, s6⟩ := chg_ext (ys := acc ++ [dy]) (vs := us ++ [yv]) s5 zs (ru.append (.cons ry .nil))
                  rw [e5] at hu y6 s6
                  refine ⟨us, hu, by rw [ru.length]; exact hl, _, rfl, (x2.trans (x3.trans (x4.trans x5))).trans y6, s6, ?_⟩
                  exact h2.mono (fun _ S2 q => Aft.later q (x3.trans (x4.trans (x5.trans y6)))) fun _ _ _ q => q
                · rw [if_neg hl] at h2; exact h2.elim
theorem lc2_core2 {vs vs1 : List Nat} {g g1 : Tgt} {gi1 : DenI} {wk : Walk} {J : It} {env : Env} {σ : St} {n : Nat} {Q : VK} (s : SOk X.K ca w) (m : Sim X.K ca w env σ) (hJ : ItOk X.K ca w J wk)
    (h : Sat ((lcW2 g gi1 g1 f wk (wipeE env vs) vs1 w.S.length n 0 (w.S ++ [.lst []])).bind fun _ S2 => .ok (.ref w.S.length) S2) (QV X.K ca w Q) (fun _ _ _ => False)) :
    ∀ D, w.H D = none → ∃ Wi : Nat → Nat → Hp → Prop, (∃ m, Wi 0 m (upd w.H D (.lst []))) ∧ ∀ i m H, Wi i m H →
      (J.stop i H ∧ Q (.ref D) H) ∨ (J.go i H ∧ ∃ Nx : Hp → Prop, (∀ H', Nx H' → ∃ m', m' < m ∧ Wi (i + 1) m' H') ∧ ∀ x H', J.yld i H x H' → tGv X.K ca vs g x (wipe σ vs) H' fun σ2 H2 => wipe σ2 vs = wipe σ vs ∧ tT X.K ca W0 tYesD σ2 H2 fun b H3 =>
        if b = true then tIt X.K ca W0 gi1 σ2 H3 fun J1 H4 => ∃ W1 : Nat → Nat → Hp → Prop, (∃ m, W1 0 m H4) ∧ ∀ j k H, W1 j k H →
          (J1.stop j H ∧ Nx H) ∨ (J1.go j H ∧ ∃ Nx1 : Hp → Prop, (∀ H', Nx1 H' → ∃ k', k' < k ∧ W1 (j + 1) k' H') ∧ ∀ x H', J1.yld j H x H' → tGv X.K ca vs1 g1 x (wipe σ2 vs1) H' fun σ3 H5 => wipe σ3 vs1 = wipe σ2 vs1 ∧ tT X.K ca W0 tYesD σ3 H5 fun b H6 =>
            if b = true then tE X.K ca W0 f σ3 H6 fun y H7 => ∃ acc, H7 D = some (.lst acc) ∧ acc.length < sizeLine ∧ Nx1 (upd H7 D (.lst (acc ++ [y]))) else Nx1 H6)
        else Nx H3) := by
  intro A hA
  obtain ⟨x1, s1⟩ := new_ext (X := X) (ca := ca) (p := A) (vs := []) (ds := []) s hA .nil
  generalize hw1 : (⟨upd w.H A (.lst []), fun n => if n = w.S.length then A else w.ρ n, w.S ++ [.lst []]⟩ : Wd) = w1 at x1 s1
  have hn1 : w.S.length < w1.S.length := by rw [← hw1]; show _ < (w.S ++ [O.lst []]).length; rw [List.length_append]; exact Nat.lt_succ_self _
  have hρ : w1.ρ w.S.length = A := by rw [← hw1]; exact if_pos rfl
  have hS1 : w1.S = w.S ++ [.lst []] := by rw [← hw1]
  have hH1 : w1.H = upd w.H A (.lst []) := by rw [← hw1]
  refine ⟨fun i k H => ∃ w2, w2.H = H ∧ Ext w1 w2 ∧ SOk X.K ca w2 ∧ Sat (lcW2 g gi1 g1 f wk (wipeE env vs) vs1 w.S.length k i w2.S) (fun _ S2 => QV X.K ca w2 Q (.ref w.S.length) S2) (fun _ _ _ => False), ⟨n, w1, hH1, .refl w1, s1, ?_⟩, ?_⟩
  · rw [hS1]
    exact (Sat.bind h).mono (fun _ S2 q => QV.later x1 q) fun _ _ _ q => q
  rintro i k H ⟨w2, rfl, x2, s2, h2⟩
  have hA2 : w2.ρ w.S.length = A := (x2.rho _ hn1).trans hρ
  have stop : wk i w2.S = some none → QV X.K ca w2 Q (.ref w.S.length) w2.S → J.stop i w2.H ∧ Q (.ref A) w2.H := fun z q => by
    refine ⟨hJ.stops i w2 (x1.trans x2) s2 z, ?_⟩
    have rr : Rep X.K ca w2 (.ref (w2.ρ w.S.length)) (.ref w.S.length) := .ref (Nat.lt_of_lt_of_le hn1 x2.len)
    rw [hA2] at rr
    exact sat_here s2 q rr
  cases k with
  | zero =>
    unfold lcW2 at h2
    cases z : wk i w2.S with
    | none => rw [z] at h2; exact h2.elim
    | some o =>
      cases o with
      | some d => rw [z] at h2; exact h2.elim
      | none => rw [z] at h2; exact .inl (stop z h2)
  | succ k =>
    unfold lcW2 at h2
    cases z : wk i w2.S with
    | none => rw [z] at h2; exact h2.elim
    | some o =>
      cases o with
      | none => rw [z] at h2; exact .inl (stop z h2)
      | some d =>
        rw [z] at h2
        dsimp only at h2
        refine .inr ⟨hJ.goes i w2 d (x1.trans x2) s2 z, fun H' => ∃ w3, w3.H = H' ∧ Ext w1 w3 ∧ SOk X.K ca w3 ∧ Sat (lcW2 g gi1 g1 f wk (wipeE env vs) vs1 w.S.length k (i + 1) w3.S) (fun _ S2 => QV X.K ca w3 Q (.ref w.S.length) S2) (fun _ _ _ => False),
          fun H' q => ⟨k, Nat.lt_succ_self k, q⟩, fun x H' y => ?_⟩
        obtain ⟨w3, eH, eS, x3, s3, rd⟩ := hJ.yields i w2 d x H' (x1.trans x2) s2 z y
        rw [← eS] at h2
        cases zt : g d (wipeE env vs) w3.S with
        | none => rw [zt] at h2; exact h2.elim
        | some e1 =>
          rw [zt] at h2
          dsimp only at h2
          have mw := (m.mono (x1.trans (x2.trans x3)) s).wipe vs
          refine ⟨w3, _, d, e1, eH, s3, mw, rd, zt, fun σ2 m2 k2 => ⟨k2.trans wipe_wipe, w3, e1, eH, s3, m2, ?_⟩⟩
          intro w4 hS x4 s4
          rw [← hS] at h2
          refine iteT ⟨w4, e1, rfl, s4, m2.mono x4 s3, ?_⟩
          cases zi : gi1 e1 w4.S with
          | bad => rw [zi] at h2; exact h2.elim
          | err c v S1 => rw [zi] at h2; exact h2.elim
          | ok wn S1 =>
            rw [zi] at h2
            intro w5 hS5 x5 s5 J1 hJ1
            subst hS5
            dsimp only at h2
            have x35 := x3.trans (x4.trans x5)
            refine lc_in (nn := wn.2) (n := w.S.length) s5 (m2.mono (x4.trans x5) s3) hJ1 (Nat.lt_of_lt_of_le hn1 (x2.trans x35).len) (((x2.trans x35).rho _ hn1).trans hρ) ?_
            cases zl : lcW g1 tYesD f wn.1 (wipeE e1 vs1) w.S.length wn.2 0 w5.S with
            | bad => rw [zl] at h2; exact h2.elim
            | err c v S1 => rw [zl] at h2; exact h2.elim
            | ok u S2 =>
              rw [zl] at h2
              intro w6 hS6 x6 s6
              subst hS6
              exact ⟨w6, rfl, (x2.trans x35).trans x6, s6, h2.mono (fun _ S2 q => QV.later (x35.trans x6) q) fun _ _ _ q => q⟩
theorem lcW2_mute {g g1 : Tgt} {gi1 : DenI} {wk : Walk} {e0 : Env} {vs1 : List Nat} {n : Nat} {c : Nat} {v : D} {S2 : Store} : ∀ (k i : Nat) (S : Store), lcW2 g gi1 g1 f wk e0 vs1 n k i S ≠ .err c v S2
  | 0, i, S => by unfold lcW2; split <;> simp
  | k + 1, i, S => by
    unfold lcW2
    split
    · simp
    · simp
    · split
      · simp
      · split
        · split
          · exact lcW2_mute k _ _
          · simp
        · simp
theorem lc2_fin {g g1 : Tgt} {gi1 : DenI} {wk : Walk} {e0 : Env} {vs1 : List Nat} {n k : Nat} {S : Store} {Q : D → Store → Prop} {E : Nat → D → Store → Prop} (h : Sat ((lcW2 g gi1 g1 f wk e0 vs1 n k 0 S).bind fun _ S2 => .ok (.ref n) S2) Q E) : Sat ((lcW2 g gi1 g1 f wk e0 vs1 n k 0 S).bind fun _ S2 => .ok (D.ref n) S2) Q (fun _ _ _ => False) := by
  cases z : lcW2 g gi1 g1 f wk e0 vs1 n k 0 S with
  | ok u S2 => rw [z] at h; exact h
  | err c v S2 => exact absurd z (lcW2_mute k 0 S)
  | bad => rw [z] at h; exact h
theorem lc2_imp {vs vs1 : List Nat} {gi gi1 : DenI} {g g1 : Tgt} {σ : St} {H : Hp} {Q : VK} (h : tE X.K ca W (eLc2 vs vs1 gi g gi1 g1 f) σ H Q) : tLc2 (tIt X.K ca W gi) (tGv X.K ca vs g) (tT X.K ca W0 tYesD) (tIt X.K ca W0 gi1) (tGv X.K ca vs1 g1) (tT X.K ca W0 tYesD) (tE X.K ca W0 f) vs vs1 σ H Q := by
  obtain ⟨w, env, e, s, m, h⟩ := h
  refine ⟨w, env, e, s, m, (Sat.bind h).mono (fun wn S1 q => ?_) fun _ _ _ q => q⟩
  intro w1 hS x1 s1 J hJ
  subst hS
  exact lc2_core2 (n := wn.2) s1 (m.mono x1 s) hJ (lc2_fin (tidy_imp (RR := fun cls dd H => W cls dd σ H) s1 (q.mono (fun d S z => QV.later x1 z) fun c v S z => QE.later x1 z)))
theorem e_lc2 {scope : Scope} {own : List (Str × Nat)} {vs vs1 : List Nat} {gi gi1 : DenI} {g g1 : Tgt} {elt tg iter tg1 iter1 : Expr} {pos : Pos} (hc : X.calm = true) (hN : X.N.Nodup) (hv : own.map (·.2) = vs) (hv1 : ∀ i ∈ vs1, i ∈ own.map (·.2)) (hi : PI X tg iter (tIt X.K ca W gi)) (ok : BlkOk X.N X.env.scope scope own)
    (hg : ∀ (s : Shared) (H : Hp) (C : Addr) (cl : List (Str × Addr)) (fp : List Addr), PG (X.blk s H scope (compEnvC scope cl C X.env) fp) tg (tGv X.K ca vs g))
    (hi1 : ∀ (s : Shared) (H : Hp) (C : Addr) (cl : List (Str × Addr)) (fp : List Addr), PI (X.blk s H scope (compEnvC scope cl C X.env) fp) tg1 iter1 (tIt X.K ca W0 gi1))
    (hg1 : ∀ (s : Shared) (H : Hp) (C : Addr) (cl : List (Str × Addr)) (fp : List Addr), PG (X.blk s H scope (compEnvC scope cl C X.env) fp) tg1 (tGv X.K ca vs1 g1))
    (he : ∀ (s : Shared) (H : Hp) (C : Addr) (cl : List (Str × Addr)) (fp : List Addr), PE (X.blk s H scope (compEnvC scope cl C X.env) fp) elt (tE X.K ca W0 f)) (hs : ∀ x, foldedSetIterable iter X.env x = pure x := by intro _; rfl) (hs1 : ∀ env x, foldedSetIterable iter1 env x = pure x := by intro _ _; rfl) :
    PE X (.ListComp elt [⟨tg, iter, [], 0⟩, ⟨tg1, iter1, [], 0⟩] scope pos) (tE X.K ca W (eLc2 vs vs1 gi g gi1 g1 f)) := by
  subst hv
  exact PE.imp (pe_lc2 hc hN hi ok hv1 hg (fun _ _ _ _ _ => pts0) hi1 hg1 (fun _ _ _ _ _ => pts0) he hs hs1) fun _ _ _ h => lc2_imp h
theorem s_lc2 {scope : Scope} {own : List (Str × Nat)} {vs vs1 : List Nat} {gi gi1 : DenI} {g g1 : Tgt} {k : Nat} {y : Str} {elt tg iter tg1 iter1 : Expr} {py pos spos : Pos} (hc : X.calm = true) (hN : X.N.Nodup) (hy : X.N[k]? = some y) (hyl : X.env.scope.names.lookup y = some .local)
    (hsw : swapsWith (.ListComp elt [⟨tg, iter, [], 0⟩, ⟨tg1, iter1, [], 0⟩] scope pos) (some (.Name y py)) spos.line X.env = pure true) (hv : own.map (·.2) = vs) (hv1 : ∀ i ∈ vs1, i ∈ own.map (·.2)) (hi : PI X tg iter (tIt X.K ca W gi)) (ok : BlkOk X.N X.env.scope scope own)
    (hg : ∀ (s : Shared) (H : Hp) (C : Addr) (cl : List (Str × Addr)) (fp : List Addr), PG (X.blk s H scope (compEnvC scope cl C X.env) fp) tg (tGv X.K ca vs g))
    (hi1 : ∀ (s : Shared) (H : Hp) (C : Addr) (cl : List (Str × Addr)) (fp : List Addr), PI (X.blk s H scope (compEnvC scope cl C X.env) fp) tg1 iter1 (tIt X.K ca W0 gi1))
    (hg1 : ∀ (s : Shared) (H : Hp) (C : Addr) (cl : List (Str × Addr)) (fp : List Addr), PG (X.blk s H scope (compEnvC scope cl C X.env) fp) tg1 (tGv X.K ca vs1 g1))
    (he : ∀ (s : Shared) (H : Hp) (C : Addr) (cl : List (Str × Addr)) (fp : List Addr), PE (X.blk s H scope (compEnvC scope cl C X.env) fp) elt (tE X.K ca W0 f)) (hs : ∀ x, foldedSetIterable iter X.env x = pure x := by intro _; rfl) (hs1 : ∀ env x, foldedSetIterable iter1 env x = pure x := by intro _ _; rfl) :
    PS X (.Assign [.Name y py] (.ListComp elt [⟨tg, iter, [], 0⟩, ⟨tg1, iter1, [], 0⟩] scope pos) spos) (tS X.K ca W (sSet k (eLc2 vs vs1 gi g gi1 g1 f))) := by
  subst hv
  exact s_setOf (ps_setLc2 hc hN hy hyl hsw hi ok hv1 hg (fun _ _ _ _ _ => pts0) hi1 hg1 (fun _ _ _ _ _ => pts0) he hs hs1) fun _ _ _ h => lc2_imp h
end
end Py

set_option maxHeartbeats 4000000
/-! PyLs: list(x) of a text. -/
namespace Py
open PySem PySem.Spec PyProof.Rows L2
def oListS : OpF := fun ds S => match ds with
  | [.str x] => if x.length ≤ sizeLine then .ok (signs x) S else .bad
  | _ => .bad
theorem n_listS : MuteF oListS := by
  intro a S c v S' h; revert h; unfold oListS
  split
  · split <;> simp
  · simp
section
variable {X : Cx} {ca : Nat → Addr} {w : Wd}
def sgnV (x : Str) : List V := (x.cps.toList.map fun c => (⟨#[c]⟩ : Str)).map V.str
theorem signs_V {x : Str} : RepL X.K ca w (sgnV x) (signs x) := by
  have e : signs x = (x.cps.toList.map fun c => (⟨#[c]⟩ : Str)).map D.str := by
    unfold signs; rw [List.map_map]; rfl
  rw [e]
  exact repL_strs _
theorem call_listStr (hc : X.calm = true) : CallR X (.type "list") (fun xs H Q => ∃ x, xs = [.str x] ∧ x.length ≤ sizeLine ∧ ∀ q, H q = none → Q (.ref q) (upd H q (.lst (sgnV x)))) := by
  intro pins s σ H xs us Q I r h
  obtain ⟨x, rfl, hz, q⟩ := h
  obtain ⟨u, rfl, ru⟩ := vals1 r
  obtain ⟨t, rfl⟩ := ru
  have hl : (sgnV x).length = x.cps.size := by unfold sgnV; rw [List.length_map, List.length_map, Array.length_toList]
  refine call_list_str (I.ok.hd hc) x t (fun h' tk acc c' hk e hi => ?_) hz
  refine ⟨.ref s.heap.objs.size, upd H s.heap.objs.size (.lst (sgnV x)), I.laid hk (Nat.le_refl _) ⟨by rw [hl]; exact hz, acc.toList, c', ?_, by rw [Array.toArray_toList]; exact e⟩, rfl, q _ (I.hok.fresh (Nat.le_refl _))⟩
  refine vals_of_idx _ _ (by rw [hl, Array.length_toList]; exact hi.1) fun j u hj => ?_
  obtain ⟨c, t', hc, rfl⟩ := hi.2 j u (by rw [← Array.getElem?_toList]; exact hj)
  exact ⟨.str ⟨#[c]⟩, by simp [sgnV, hc], ⟨_, rfl⟩⟩
theorem c_listS (hc : X.calm = true) : CallR X (.type "list") (rOF X.K ca oListS) := callImp (call_listStr hc) fun xs H Q h => by
  obtain ⟨w, ds, e, s, r, h⟩ := h
  subst e
  unfold oListS at h
  cases r with
  | nil => exact h.elim
  | @cons v d _ _ r t =>
    cases t with
    | cons _ _ => cases r <;> exact h.elim
    | nil =>
      cases r with
      | str x =>
        dsimp only at h
        by_cases hl : x.length ≤ sizeLine
        · rw [if_pos hl] at h
          exact ⟨x, rfl, hl, fun q hq => h w rfl (.refl w) s _ q signs_V hq⟩
        · rw [if_neg hl] at h; exact h.elim
      | _ => exact h.elim
end
end Py

set_option maxHeartbeats 4000000
/-! PyWx: rules of the walk for lists of the store that grow, dicts, comprehensions of two; a bag that cubes twice and adds. -/
namespace Py
open PySem (Str sizeLine)
open TL (tl)
section
variable {f g h o i : Den} {gs : Dens} {e : Env} {S : Store} {Q : D → Store → Prop} {QL : List D → Store → Prop} {E : Nat → D → Store → Prop}
theorem asL_l {xs : List D} : asL (.lst xs) S = some xs := rfl
theorem asL_r {n : Nat} {xs : List D} (g : S[n]? = some (.lst xs)) : asL (.ref n) S = some xs := by show (match S[n]? with | some (.lst xs) => some xs | _ => none) = _; rw [g]
theorem asSq_l {xs : List D} : asSq (.lst xs) S = some xs := rfl
theorem asSq_r {n : Nat} {xs : List D} (g : S[n]? = some (.lst xs)) : asSq (.ref n) S = some xs := asL_r g
def rcvK (d : D) (S : Store) : R D := match d with | .ref n => (match S[n]? with | some (.lst _) => .ok d S | _ => .bad) | _ => .bad
theorem W_rcv : Sat (rcv f e S) Q E = Sat (f e S) (fun a S1 => Sat (rcvK a S1) Q E) E := by
  show Sat ((f e S).bind fun a S1 => rcvK a S1) Q E = _
  simp only [Sat_bind]
theorem new_at {o : O} : (S ++ [o])[S.length]? = some o := by rw [List.getElem?_append_right (Nat.le_refl _), Nat.sub_self]; rfl
theorem rcv_ok {n : Nat} {xs : List D} (g : S[n]? = some (.lst xs)) : rcvK (.ref n) S = .ok (.ref n) S := by unfold rcvK; dsimp only; rw [g]
def extK (v d : D) (S2 : Store) : R D := match asL v S2 with | some zs => chg (kExt zs) d S2 | none => .bad
theorem W_ext : Sat (eExt o f e S) Q E = Sat (o e S) (fun d S1 => Sat (f e S1) (fun v S2 => Sat (extK v d S2) Q E) E) E := by
  show Sat ((o e S).bind fun d S1 => (f e S1).bind fun v S2 => extK v d S2) Q E = _
  simp only [Sat_bind]
theorem ext_ok {n : Nat} {xs zs : List D} {v : D} (g : S[n]? = some (.lst xs)) (hz : asL v S = some zs) (hl : xs.length + zs.length ≤ 1000000) : extK v (.ref n) S = .ok .non (S.set n (.lst (xs ++ zs))) := by
  unfold extK
  rw [hz]
  exact chg_at g (by unfold kExt; rw [if_pos (by rw [slz]; omega)])
theorem app_ok {n : Nat} {xs : List D} {v : D} (g : S[n]? = some (.lst xs)) (hl : xs.length ≤ 1000000) : chg (kApp v) (.ref n) S = .ok .non (S.set n (.lst (xs ++ [v]))) :=
  chg_at g (by unfold kApp; rw [if_pos (by rw [slz]; omega)])
theorem W_revS : Sat (eRev o e S) Q E = Sat (o e S) (fun d S1 => Sat (chg kRev d S1) Q E) E := by
  show Sat ((o e S).bind fun d S1 => chg kRev d S1) Q E = _
  simp only [Sat_bind]
theorem W_clr : Sat (eClr o e S) Q E = Sat (o e S) (fun d S1 => Sat (chg kClr d S1) Q E) E := by
  show Sat ((o e S).bind fun d S1 => chg kClr d S1) Q E = _
  simp only [Sat_bind]
def stepKL (lo : Option Int) (st : Int) (d : D) (S1 : Store) : R (List D) := match asL d S1 with | some xs => .ok (pickL xs lo st) S1 | none => .bad
theorem W_step {lo : Option Int} {st : Int} : Sat (dStepL f lo st e S) QL E = Sat (f e S) (fun d S1 => Sat (stepKL lo st d S1) QL E) E := by
  show Sat ((f e S).bind fun d S1 => stepKL lo st d S1) QL E = _
  simp only [Sat_bind]
theorem step_ok {lo : Option Int} {st : Int} {d : D} {xs : List D} (h : asL d S = some xs) : stepKL lo st d S = .ok (pickL xs lo st) S := by unfold stepKL; rw [h]
theorem W_revL : Sat (dRevL f e S) QL E = Sat (f e S) (fun a S1 => Sat (revK a S1) QL E) E := by
  show Sat ((f e S).bind fun a S1 => revK a S1) QL E = _
  simp only [Sat_bind]
theorem rev_ok {d : D} {xs : List D} (h : asL d S = some xs) : revK d S = .ok xs.reverse S := by unfold revK; rw [h]
theorem W_dnew : Sat (eDNew e S) Q E = Q (.ref S.length) (S ++ [.dct [] []]) := rfl
theorem W_setD : Sat (eSetD f o i e S) Q E = Sat (f e S) (fun v S1 => Sat (o e S1) (fun d S2 => Sat (i e S2) (fun k S3 => Sat (putD k v d S3) Q E) E) E) E := by
  show Sat ((f e S).bind fun v S1 => (o e S1).bind fun d S2 => (i e S2).bind fun k S3 => putD k v d S3) Q E = _
  simp only [Sat_bind]
theorem putD_ok {n : Nat} {ks : List (Sum Int Str)} {vs : List D} {x : Str} {v : D} (g : S[n]? = some (.dct ks vs)) (hk : kIn ks x = false) (hl : ks.length ≤ 1000000) : putD (.str x) v (.ref n) S = .ok .non (S.set n (.dct (ks ++ [.inr x]) (vs ++ [v]))) := by
  unfold putD
  dsimp only
  rw [g]
  dsimp only
  rw [if_pos ⟨hk, by rw [slz]; omega⟩]
theorem inD_r {n : Nat} {ks : List (Sum Int Str)} {vs : List D} {x : Str} {neg : Bool} (g : S[n]? = some (.dct ks vs)) : oInD neg (.str x) (.ref n) S = .ok (.bl (neg != kIn ks x)) S := by
  unfold oInD
  dsimp only
  rw [g]
theorem inD_d {ks : List (Sum Int Str)} {vs : List D} {x : Str} {neg : Bool} : oInD neg (.str x) (.dct ks vs) S = .ok (.bl (neg != kIn ks x)) S := rfl
theorem sl_l {xs : List D} {l u : Option Int} {d : D} (h : asL d S = some xs) : slK d l u S = .ok (.lst (cutD xs l u)) S := by
  cases d <;> first | (cases h; done) | skip
  · unfold slK; dsimp only; rw [h]
  · unfold slK; dsimp only; rw [h]
theorem cat_l {a b : D} {xs ys : List D} (h1 : asL a S = some xs) (h2 : asL b S = some ys) (hl : xs.length + ys.length ≤ 1000000) : oCat a b S = .ok (.lst (xs ++ ys)) S := by
  have e : oCat a b S = (match asL a S, asL b S with
    | some xs, some ys => if xs.length + ys.length ≤ sizeLine then .ok (.lst (xs ++ ys)) S else .bad
    | _, _ => oAdd a b S) := by
    cases a <;> first | (cases h1; done) | rfl
  rw [e, h1, h2]
  dsimp only
  rw [if_pos (by rw [slz]; omega)]
theorem list_ok {d : D} {xs : List D} (h : asSq d S = some xs) : oList [d] S = .ok xs S := by
  unfold oList
  dsimp only
  rw [h]
theorem in_sgn {neg : Bool} {c : Nat} {z : Str} : oInS neg (.str ⟨#[c]⟩) (.str z) S = .ok (.bl (neg != decide (c ∈ z.cps.toList))) S := rfl
theorem len_l {xs : List D} : oLen [.lst xs] S = .ok (.int xs.length) S := rfl
theorem idx_s {x : Str} {v : Int} {c : Nat} (hx : x.length ≤ 1000000) (h : L2.atI (tl x) v = some c) : oIdx (.str x) (.int v) S = .ok (sgn c) S := by
  show (if x.length ≤ sizeLine then (match L2.atI (tl x) v with | some c => R.ok (D.str ⟨#[c]⟩) S | none => R.bad) else R.bad) = _
  rw [if_pos (by rw [slz]; omega), h]
  rfl
/-! a list of the store, looked at -/
theorem look_r {n : Nat} {xs : List D} (g : S[n]? = some (.lst xs)) (hn : noRefL xs = true) : look (.ref n) S = some (.lst xs) := by
  unfold look res mapR resN
  rw [if_neg (Nat.not_lt_zero _), g]
  dsimp only
  rw [mapRL_no hn]
  rfl
theorem eq_look {a b x y : D} (h1 : look a S = some x) (h2 : look b S = some y) (f1 : fit x = true) (f2 : fit y = true) : oEq a b S = .ok (.bl (eqB x y)) S := by
  unfold oEq
  rw [h1, h2]
  dsimp only
  rw [f1, f2]
  rfl
theorem ne_look {a b x y : D} (h1 : look a S = some x) (h2 : look b S = some y) (f1 : fit x = true) (f2 : fit y = true) : oNe a b S = .ok (.bl (!eqB x y)) S := by
  unfold oNe
  rw [h1, h2]
  dsimp only
  rw [f1, f2]
  rfl
mutual
theorem eqB_self : ∀ {d : D}, pureB d = true → eqB d d = true
  | .tup xs, h => by unfold eqB; exact eqL_self (by unfold pureB at h; exact h)
  | .lst xs, h => by unfold eqB; exact eqL_self (by unfold pureB at h; exact h)
  | .exc c v, h => by unfold pureB at h; cases h
  | .ref n, h => by unfold pureB at h; cases h
  | .non, _ => by unfold eqB; rfl
  | .bl b, _ => by unfold eqB; simp
  | .int _, _ => by unfold eqB; simp
  | .str _, _ => by unfold eqB; simp
  | .fls _, h => by unfold pureB at h; cases h
  | .dct _ _, h => by unfold pureB at h; cases h
theorem eqL_self : ∀ {ds : List D}, pureL ds = true → eqL ds ds = true
  | [], _ => by unfold eqL; rfl
  | x :: xs, h => by
    unfold pureL at h
    rw [Bool.and_eq_true] at h
    unfold eqL
    rw [eqB_self h.1, eqL_self h.2]
    rfl
end
theorem fit_l {xs : List D} (h1 : pureL xs = true) (h2 : depthL xs ≤ 50) : fit (.lst xs) = true := by
  unfold fit pureB depth
  rw [h1, Bool.true_and, decide_eq_true_iff]
  omega
end
/-! ### comprehensions over a list of the store that stays as it is -/
theorem lcW_wpR {gt : Tgt} {t : DenT} {f : Den} {e0 : Env} {n0 q : Nat} {xs : List D} {E : Nat → D → Store → Prop} {N : Store → Prop} (I : Nat → List D → Store → Prop)
    (hq : ∀ i acc S, I i acc S → S[q]? = some (.lst xs))
    (step : ∀ i x acc S, xs[i]? = some x → I i acc S → ∃ e1, gt x e0 S = some e1 ∧ Sat (t e1 S) (fun b S1 => if b = true then Sat (f e1 S1) (fun d S2 => S2[n0]? = some (.lst acc) ∧ acc.length < sizeLine ∧ I (i + 1) (acc ++ [d]) (S2.set n0 (.lst (acc ++ [d])))) (fun _ _ _ => False) else I (i + 1) acc S1) (fun _ _ _ => False))
    (fin : ∀ acc S, I xs.length acc S → N S) : ∀ (k i : Nat), i + k = xs.length → ∀ acc S, I i acc S → Sat (lcW gt t f (wkR q) e0 n0 k i S) (fun _ S' => N S') E
  | 0, i, hi, acc, S, h => by
    have hn : xs[i]? = none := List.getElem?_eq_none (by omega)
    unfold lcW
    simp only [wkR, hq i acc S h, hn]
    exact fin acc S (by have : i = xs.length := by omega
                        rw [← this]; exact h)
  | k + 1, i, hi, acc, S, h => by
    have hl : i < xs.length := by omega
    have hx : xs[i]? = some xs[i] := List.getElem?_eq_getElem hl
    obtain ⟨e1, hg, hb⟩ := step i _ acc S hx h
    unfold lcW
    simp only [wkR, hq i acc S h, hx, hg]
    cases q1 : t e1 S with
    | bad => rw [q1] at hb; exact hb.elim
    | err c v S1 => rw [q1] at hb; exact hb.elim
    | ok b S1 =>
      rw [q1] at hb
      cases b with
      | false => exact lcW_wpR I hq step fin k (i + 1) (by omega) acc S1 hb
      | true =>
        dsimp only
        have hb2 : Sat (f e1 S1) (fun d S2 => S2[n0]? = some (.lst acc) ∧ acc.length < sizeLine ∧ I (i + 1) (acc ++ [d]) (S2.set n0 (.lst (acc ++ [d])))) (fun _ _ _ => False) := hb
        cases q2 : f e1 S1 with
        | bad => rw [q2] at hb2; exact hb2.elim
        | err c v S2 => rw [q2] at hb2; exact hb2.elim
        | ok d S2 =>
          rw [q2] at hb2
          obtain ⟨h1, h2, h3⟩ := hb2
          dsimp only
          rw [h1]
          dsimp only
          rw [if_pos h2]
          exact lcW_wpR I hq step fin k (i + 1) (by omega) _ _ h3
theorem Sat_lcKR {vs : List Nat} {gt : Tgt} {t : DenT} {f : Den} {e : Env} {S1 : Store} {q : Nat} {xs : List D} {E : Nat → D → Store → Prop} {Q : D → Store → Prop}
    (I : Nat → List D → Store → Prop) (h0 : I 0 [] (S1 ++ [.lst []])) (hq : ∀ i acc S, I i acc S → S[q]? = some (.lst xs))
    (step : ∀ i x acc S, xs[i]? = some x → I i acc S → ∃ e1, gt x (wipeE e vs) S = some e1 ∧ Sat (t e1 S) (fun b S2 => if b = true then Sat (f e1 S2) (fun d S3 => S3[S1.length]? = some (.lst acc) ∧ acc.length < sizeLine ∧ I (i + 1) (acc ++ [d]) (S3.set S1.length (.lst (acc ++ [d])))) (fun _ _ _ => False) else I (i + 1) acc S2) (fun _ _ _ => False))
    (fin : ∀ acc S', I xs.length acc S' → S'.length = S1.length + 1 ∧ S'[S1.length]? = some (.lst acc) ∧ noRefL acc = true ∧ Old S1 S' ∧ Q (.lst acc) (S'.take S1.length)) : Sat (lcK vs gt t f e (wkR q, xs.length) S1) Q E := by
  show Sat (tidy S1 ((lcW gt t f (wkR q) (wipeE e vs) S1.length xs.length 0 (S1 ++ [.lst []])).bind fun _ S2 => .ok (.ref S1.length) S2)) Q E
  have h := lcW_wpR (E := fun _ _ _ => False) (N := fun S' => ∃ acc, S'.length = S1.length + 1 ∧ S'[S1.length]? = some (.lst acc) ∧ noRefL acc = true ∧ Old S1 S' ∧ Q (.lst acc) (S'.take S1.length)) I hq step (fun acc S' h => ⟨acc, fin acc S' h⟩) xs.length 0 (by omega) [] _ h0
  cases q1 : lcW gt t f (wkR q) (wipeE e vs) S1.length xs.length 0 (S1 ++ [.lst []]) with
  | bad => rw [q1] at h; exact h.elim
  | err c v S2 => rw [q1] at h; exact h.elim
  | ok u S2 =>
    rw [q1] at h
    obtain ⟨acc, h1, h2, h3, h4, h5⟩ := h
    show Sat (tidy S1 (.ok (.ref S1.length) S2)) Q E
    rw [tidy_lst h1 h2 h3 h4]
    exact h5
theorem Sat_lcFR {vs : List Nat} {gt : Tgt} {t : DenT} {f : Den} {e : Env} {S1 : Store} {q : Nat} {xs : List D} {E : Nat → D → Store → Prop} {Q : D → Store → Prop} (p : D → Bool) (φ : D → D) (hq : S1[q]? = some (.lst xs))
    (hs : ∀ x ∈ xs, ∀ S', ∃ e1, gt x (wipeE e vs) S' = some e1 ∧ t e1 S' = .ok (p x) S' ∧ (p x = true → Sat (f e1 S') (fun d S2 => d = φ x ∧ S2 = S') (fun _ _ _ => False))) (hn : ∀ x ∈ xs, noRef (φ x) = true) (hl : xs.length ≤ sizeLine)
    (fin : Q (.lst ((xs.filter p).map φ)) S1) : Sat (lcK vs gt t f e (wkR q, xs.length) S1) Q E := by
  refine Sat_lcKR (fun i acc S' => acc = ((xs.take i).filter p).map φ ∧ S' = S1 ++ [.lst acc]) ⟨rfl, rfl⟩ ?_ ?_ ?_
  · rintro i acc S' ⟨h1, h2⟩
    subst h2
    rw [List.getElem?_append_left (lt_of_get hq)]
    exact hq
  · rintro i x acc S' hx ⟨h1, h2⟩
    subst h1 h2
    have hi := (List.getElem?_eq_some_iff.mp hx).1
    have hxi := (List.getElem?_eq_some_iff.mp hx).2
    obtain ⟨e1, g1, g2, g3⟩ := hs x (by rw [← hxi]; exact List.getElem_mem hi) (S1 ++ [.lst (((xs.take i).filter p).map φ)])
    refine ⟨e1, g1, ?_⟩
    rw [g2]
    show (if p x = true then _ else _)
    have ht : (xs.take (i + 1)).filter p = (xs.take i).filter p ++ (if p x = true then [x] else []) := by
      rw [List.take_succ_eq_append_getElem hi, List.filter_append, hxi]
      congr 1
      by_cases hp : p x = true <;> simp [hp]
    by_cases hp : p x = true
    · rw [if_pos hp]
      refine Sat_use0 (g3 hp) ?_
      rintro d S2 ⟨h1, h2⟩
      subst h1 h2
      refine ⟨by rw [List.getElem?_append_right (Nat.le_refl _), Nat.sub_self]; rfl, ?_, ?_, ?_⟩
      · have h1 := List.length_filter_le p (xs.take i)
        rw [List.length_map]
        rw [List.length_take] at h1
        omega
      · rw [ht, if_pos hp, List.map_append]; rfl
      · rw [List.set_append_right _ _ (Nat.le_refl _), Nat.sub_self]; rfl
    · rw [if_neg hp]
      rw [if_neg hp, List.append_nil] at ht
      rw [ht]
      exact ⟨rfl, rfl⟩
  · rintro acc S' ⟨h1, h2⟩
    subst h1 h2
    rw [List.take_length]
    refine ⟨by rw [List.length_append]; rfl, by rw [List.getElem?_append_right (Nat.le_refl _), Nat.sub_self]; rfl, noRefL_map fun x hx => hn x (List.mem_filter.mp hx).1, Old.refl _ _, ?_⟩
    rw [List.take_left]
    exact fin
/-! ### comprehensions of two -/
noncomputable def lcK2 (vs vs1 : List Nat) (gt : Tgt) (gi1 : DenI) (g1 : Tgt) (f : Den) (e : Env) (w : Walk × Nat) (S1 : Store) : R D :=
  tidy S1 ((lcW2 gt gi1 g1 f w.1 (wipeE e vs) vs1 S1.length w.2 0 (S1 ++ [.lst []])).bind fun _ S2 => .ok (.ref S1.length) S2)
theorem W_lc2 {vs vs1 : List Nat} {gi : DenI} {gt : Tgt} {gi1 : DenI} {g1 : Tgt} {f : Den} {e : Env} {S : Store} {E : Nat → D → Store → Prop} {Q : D → Store → Prop} :
    Sat (eLc2 vs vs1 gi gt gi1 g1 f e S) Q E = Sat (gi e S) (fun w S1 => Sat (lcK2 vs vs1 gt gi1 g1 f e w S1) Q E) E := by
  show Sat ((gi e S).bind fun w S1 => lcK2 vs vs1 gt gi1 g1 f e w S1) Q E = _
  rw [Sat_bind]
theorem lcW2_pure {vs1 : List Nat} {gt : Tgt} {gi1 : DenI} {g1 : Tgt} {f : Den} {e0 : Env} {S1 : Store} {xs : List D} (φ : D → List D)
    (hs : ∀ x ∈ xs, ∀ T : Store, ∃ e1, gt x e0 (S1 ++ T) = some e1 ∧ ∃ ys ψ, gi1 e1 (S1 ++ T) = .ok (wkL ys, ys.length) (S1 ++ T) ∧ φ x = ys.map ψ ∧ ∀ y ∈ ys, ∀ T' : Store, ∃ e2, g1 y (wipeE e1 vs1) (S1 ++ T') = some e2 ∧ Sat (f e2 (S1 ++ T')) (fun d S2 => d = ψ y ∧ S2 = S1 ++ T') (fun _ _ _ => False)) :
    ∀ (k i : Nat) (acc : List D), i + k = xs.length → acc.length + ((xs.drop i).flatMap φ).length ≤ 1000000 → lcW2 gt gi1 g1 f (wkL xs) e0 vs1 S1.length k i (S1 ++ [.lst acc]) = .ok () (S1 ++ [.lst (acc ++ (xs.drop i).flatMap φ)])
  | 0, i, acc, hi, hl => by
    have hn : xs[i]? = none := List.getElem?_eq_none (by omega)
    unfold lcW2
    simp only [wkL, hn]
    rw [List.drop_eq_nil_of_le (by omega)]
    simp
  | k + 1, i, acc, hi, hl => by
    have hl1 : i < xs.length := by omega
    have hx : xs[i]? = some xs[i] := List.getElem?_eq_getElem hl1
    obtain ⟨e1, hg, ys, ψ, hgi, hφ, hb⟩ := hs _ (List.getElem_mem hl1) [.lst acc]
    have hd : (xs.drop i).flatMap φ = ys.map ψ ++ (xs.drop (i + 1)).flatMap φ := by rw [List.drop_eq_getElem_cons hl1, List.flatMap_cons, hφ]
    rw [hd] at hl ⊢
    rw [List.length_append, List.length_map] at hl
    unfold lcW2
    simp only [wkL, hx, hg, hgi]
    have hin : Sat (lcW g1 tYesD f (wkL ys) (wipeE e1 vs1) S1.length ys.length 0 (S1 ++ [.lst acc])) (fun _ S' => S' = S1 ++ [.lst (acc ++ ys.map ψ)]) (fun _ _ _ => False) := by
      refine lcW_wp (fun j ac S' => ac = acc ++ (ys.take j).map ψ ∧ S' = S1 ++ [.lst ac]) ?_ ?_ ys.length 0 (by omega) acc _ ⟨by simp, rfl⟩
      · rintro j y ac S' hy ⟨h1, h2⟩
        subst h1 h2
        have hj := (List.getElem?_eq_some_iff.mp hy).1
        have hyj := (List.getElem?_eq_some_iff.mp hy).2
        obtain ⟨e2, q1, q2⟩ := hb y (by rw [← hyj]; exact List.getElem_mem hj) [.lst (acc ++ (ys.take j).map ψ)]
        refine ⟨e2, q1, ?_⟩
        show Sat (f e2 _) _ _
        refine Sat_use0 q2 ?_
        rintro d S2 ⟨h1, h2⟩
        subst h1 h2
        refine ⟨new_at, ?_, ?_, ?_⟩
        · rw [List.length_append, List.length_map, List.length_take, slz]; omega
        · rw [List.take_succ_eq_append_getElem hj, List.map_append, hyj, List.append_assoc]; rfl
        · rw [List.set_append_right _ _ (Nat.le_refl _), Nat.sub_self]; rfl
      · rintro ac S' ⟨h1, h2⟩
        rw [h2, h1, List.take_length]
    cases q : lcW g1 tYesD f (wkL ys) (wipeE e1 vs1) S1.length ys.length 0 (S1 ++ [.lst acc]) with
    | bad => rw [q] at hin; exact hin.elim
    | err c v S2 => rw [q] at hin; exact hin.elim
    | ok u S2 =>
      rw [q] at hin
      have hin2 : S2 = S1 ++ [.lst (acc ++ ys.map ψ)] := hin
      subst hin2
      dsimp only
      rw [lcW2_pure φ hs k (i + 1) _ (by omega) (by rw [List.length_append, List.length_map]; omega), List.append_assoc]
theorem Sat_lc2P {vs vs1 : List Nat} {gt : Tgt} {gi1 : DenI} {g1 : Tgt} {f : Den} {e : Env} {S1 : Store} {xs : List D} {E : Nat → D → Store → Prop} {Q : D → Store → Prop} (φ : D → List D)
    (hs : ∀ x ∈ xs, ∀ T : Store, ∃ e1, gt x (wipeE e vs) (S1 ++ T) = some e1 ∧ ∃ ys ψ, gi1 e1 (S1 ++ T) = .ok (wkL ys, ys.length) (S1 ++ T) ∧ φ x = ys.map ψ ∧ ∀ y ∈ ys, ∀ T' : Store, ∃ e2, g1 y (wipeE e1 vs1) (S1 ++ T') = some e2 ∧ Sat (f e2 (S1 ++ T')) (fun d S2 => d = ψ y ∧ S2 = S1 ++ T') (fun _ _ _ => False))
    (hn : noRefL (xs.flatMap φ) = true) (hl : (xs.flatMap φ).length ≤ 1000000) (fin : Q (.lst (xs.flatMap φ)) S1) : Sat (lcK2 vs vs1 gt gi1 g1 f e (wkL xs, xs.length) S1) Q E := by
  show Sat (tidy S1 ((lcW2 gt gi1 g1 f (wkL xs) (wipeE e vs) vs1 S1.length xs.length 0 (S1 ++ [.lst []])).bind fun _ S2 => .ok (.ref S1.length) S2)) Q E
  rw [lcW2_pure φ hs xs.length 0 [] (by omega) (by simpa using hl)]
  show Sat (tidy S1 (.ok (.ref S1.length) (S1 ++ [.lst ([] ++ (xs.drop 0).flatMap φ)]))) Q E
  rw [List.drop_zero, List.nil_append, tidy_lst (by rw [List.length_append]; rfl) new_at hn (Old.refl _ _), List.take_left]
  exact fin
/-! ### a store that has grown -/
def Pre (S S' : Store) : Prop := S.length ≤ S'.length ∧ ∀ k, k < S.length → S'[k]? = S[k]?
theorem Pre.refl {S : Store} : Pre S S := ⟨Nat.le_refl _, fun _ _ => rfl⟩
theorem Pre.app {S T : Store} : Pre S (S ++ T) := ⟨by rw [List.length_append]; omega, fun k h => List.getElem?_append_left h⟩
theorem Pre.trans {S S1 S2 : Store} (a : Pre S S1) (b : Pre S1 S2) : Pre S S2 := ⟨Nat.le_trans a.1 b.1, fun k h => (b.2 k (Nat.lt_of_lt_of_le h a.1)).trans (a.2 k h)⟩
theorem Pre.set {S S1 : Store} {j : Nat} {o : O} (a : Pre S S1) (h : S.length ≤ j) : Pre S (S1.set j o) := ⟨by rw [List.length_set]; exact a.1, fun k hk => by rw [List.getElem?_set_ne (by omega)]; exact a.2 k hk⟩
theorem Pre.take {S S1 : Store} (a : Pre S S1) : S1.take S.length = S := by
  refine List.ext_getElem? fun k => ?_
  by_cases h : k < S.length
  · rw [List.getElem?_take_of_lt h, a.2 k h]
  · rw [List.getElem?_eq_none (by rw [List.length_take]; omega), List.getElem?_eq_none (by omega)]
theorem Pre.old {S S1 : Store} (a : Pre S S1) : Old S S1 := fun k h => .inl (a.2 k h)
theorem tidy_pre {S S1 : Store} {d : D} (a : Pre S S1) (hn : noRef d = true) : tidy S (.ok d S1) = .ok d S := by
  by_cases h : S1.length ≤ S.length
  · have e : S1 = S := by rw [← a.take, List.take_of_length_le h]
    rw [e]; exact tidy_ok0
  · unfold tidy
    simp only [if_neg h, res_no hn, if_pos a.old, a.take]
theorem res_new {S S1 : Store} {q : Nat} {xs : List D} (hq : S.length ≤ q) (g : S1[q]? = some (.lst xs)) (hn : noRefL xs = true) : res S.length S1 (.ref q) = some (.lst xs) := by
  unfold res mapR resN
  rw [if_neg (by omega), g]
  dsimp only
  rw [mapRL_no hn]
  rfl
theorem tidy_preR {S S1 : Store} {q : Nat} {xs : List D} (a : Pre S S1) (hq : S.length ≤ q) (g : S1[q]? = some (.lst xs)) (hn : noRefL xs = true) : tidy S (.ok (.ref q) S1) = .ok (.lst xs) S := by
  have hl := lt_of_get g
  unfold tidy
  simp only [if_neg (show ¬ S1.length ≤ S.length by omega), res_new hq g hn, if_pos a.old, a.take]
/-- at least as long, the same but at p -/
def Fx (S S' : Store) (p : Nat) : Prop := S.length ≤ S'.length ∧ ∀ k, k < S.length → k ≠ p → S'[k]? = S[k]?
theorem Fx.of {S S' : Store} {p : Nat} (h : Fr1 S S' p) : Fx S S' p := ⟨Nat.le_of_eq h.1.symm, fun k _ hp => h.2 k hp⟩
theorem Fx.pre {S S' : Store} {p : Nat} (h : Pre S S') : Fx S S' p := ⟨h.1, fun k hk _ => h.2 k hk⟩
theorem Fx.refl {S : Store} {p : Nat} : Fx S S p := ⟨Nat.le_refl _, fun _ _ _ => rfl⟩
theorem Fx.trans {S S1 S2 : Store} {p : Nat} (a : Fx S S1 p) (b : Fx S1 S2 p) : Fx S S2 p := ⟨Nat.le_trans a.1 b.1, fun k h hp => (b.2 k (Nat.lt_of_lt_of_le h a.1) hp).trans (a.2 k h hp)⟩
theorem Fx.app {S U : Store} {p : Nat} : Fx S (S ++ U) p := Fx.pre Pre.app
theorem Fx.setN {S S1 : Store} {p j : Nat} {o : O} (a : Fx S S1 p) (h : S.length ≤ j) : Fx S (S1.set j o) p := ⟨by rw [List.length_set]; exact a.1, fun k hk hp => by rw [List.getElem?_set_ne (by omega)]; exact a.2 k hk hp⟩
theorem Fx.fr {S S' : Store} {p : Nat} (hF : Fx S S' p) (h : S'.length ≤ S.length) : Fr1 S S' p := ⟨Nat.le_antisymm h hF.1, fun k hk => by
  by_cases hl : k < S.length
  · exact hF.2 k hl hk
  · rw [List.getElem?_eq_none (by omega), List.getElem?_eq_none (by omega)]⟩
theorem Fx.takeF {S S' : Store} {p : Nat} (hF : Fx S S' p) : Fr1 S (S'.take S.length) p := ⟨by rw [List.length_take]; have := hF.1; omega, fun k hk => by
  by_cases hl : k < S.length
  · rw [List.getElem?_take_of_lt hl, hF.2 k hl hk]
  · rw [List.getElem?_eq_none (by rw [List.length_take]; omega), List.getElem?_eq_none (by omega)]⟩
theorem tidyC {N p : Nat} {S S' : Store} {d : D} (hn : noRef d = true) (hp : p < S.length) (hP : PotC N S' p) (hF : Fx S S' p) : ∃ S2, tidy S (.ok d S') = .ok d S2 ∧ PotC N S2 p ∧ Fr1 S S2 p := by
  by_cases h : S'.length ≤ S.length
  · exact ⟨S', tidy_ok h, hP, hF.fr h⟩
  · refine ⟨S'.take S.length, ?_, hP.take hp, hF.takeF⟩
    unfold tidy
    simp only [if_neg h, res_no hn, if_pos (hP.old hF.2)]
theorem tidyCR {N p q : Nat} {S S' : Store} {xs : List D} (hq : S.length ≤ q) (g : S'[q]? = some (.lst xs)) (hn : noRefL xs = true) (hp : p < S.length) (hP : PotC N S' p) (hF : Fx S S' p) : ∃ S2, tidy S (.ok (.ref q) S') = .ok (.lst xs) S2 ∧ PotC N S2 p ∧ Fr1 S S2 p := by
  have hl := lt_of_get g
  refine ⟨S'.take S.length, ?_, hP.take hp, hF.takeF⟩
  unfold tidy
  simp only [if_neg (show ¬ S'.length ≤ S.length by omega), res_new hq g hn, if_pos (hP.old hF.2)]
/-- behind tidy: a value, or a list of the store that becomes one -/
theorem Sat_tidyC {r : R D} {N p : Nat} {S : Store} {P : D → Prop} {E : Nat → D → Store → Prop} (hp : p < S.length)
    (h : Sat r (fun d S' => PotC N S' p ∧ Fx S S' p ∧ ((noRef d = true ∧ P d) ∨ ∃ q xs, d = .ref q ∧ S.length ≤ q ∧ S'[q]? = some (.lst xs) ∧ noRefL xs = true ∧ P (.lst xs))) (fun _ _ _ => False)) :
    Sat (tidy S r) (fun d S' => P d ∧ PotC N S' p ∧ Fr1 S S' p) E := by
  cases r with
  | ok d S' =>
    obtain ⟨h1, h2, h3⟩ := h
    rcases h3 with ⟨h3, h4⟩ | ⟨q, xs, rfl, h3, h4, h5, h6⟩
    · obtain ⟨S2, e, a, b⟩ := tidyC h3 hp h1 h2
      rw [e]
      exact ⟨h4, a, b⟩
    · obtain ⟨S2, e, a, b⟩ := tidyCR h3 h4 h5 hp h1 h2
      rw [e]
      exact ⟨h6, a, b⟩
  | err c v S' => exact h.elim
  | bad => exact h.elim
theorem noRefL_iff : ∀ {l : List D}, noRefL l = true ↔ ∀ x ∈ l, noRef x = true
  | [] => ⟨fun _ x hx => (by cases hx), fun _ => rfl⟩
  | a :: l => by
    unfold noRefL
    rw [Bool.and_eq_true, noRefL_iff (l := l)]
    constructor
    · rintro ⟨h1, h2⟩ x hx
      rcases List.mem_cons.mp hx with rfl | hx
      · exact h1
      · exact h2 x hx
    · exact fun h => ⟨h _ List.mem_cons_self, fun x hx => h x (List.mem_cons_of_mem _ hx)⟩
theorem noRefL_perm {l m : List D} (h : l.Perm m) (hm : noRefL m = true) : noRefL l = true := noRefL_iff.mpr fun x hx => noRefL_iff.mp hm x (h.mem_iff.mp hx)
/-- Sat, closed: what elaborates it does not look into it -/
structure OkR (r : R D) (Q : D → Store → Prop) : Prop where
  h : Sat r Q fun _ _ _ => False
theorem Sat_useO {r : R D} {Q Q' : D → Store → Prop} {E : Nat → D → Store → Prop} (h : OkR r Q) (hq : ∀ a S, Q a S → Q' a S) : Sat r Q' E := Sat_use0 h.h hq
theorem OkR.ok {r : R D} {d : D} {S : Store} (h : OkR r fun d' S' => d' = d ∧ S' = S) : r = .ok d S := ok_of_Sat h.h
theorem OkR.mono {r : R D} {Q Q' : D → Store → Prop} (h : OkR r Q) (hq : ∀ a S, Q a S → Q' a S) : OkR r Q' := ⟨Sat_use0 h.h hq⟩
theorem OkR.ex {r : R D} {Q : D → Store → Prop} (h : OkR r Q) : ∃ d S, r = .ok d S ∧ Q d S := by
  cases r with
  | ok d S => exact ⟨d, S, rfl, h.h⟩
  | err c v S => exact h.h.elim
  | bad => exact h.h.elim
theorem OkR.tidyC {r : R D} {N p : Nat} {S : Store} {P : D → Prop} (hp : p < S.length)
    (h : OkR r (fun d S' => PotC N S' p ∧ Fx S S' p ∧ ((noRef d = true ∧ P d) ∨ ∃ q xs, d = .ref q ∧ S.length ≤ q ∧ S'[q]? = some (.lst xs) ∧ noRefL xs = true ∧ P (.lst xs)))) :
    OkR (tidy S r) (fun d S' => P d ∧ PotC N S' p ∧ Fr1 S S' p) := ⟨Sat_tidyC hp h.h⟩
end Py

set_option maxHeartbeats 4000000
/-! PyBj: the well of k73, k84, k94. -/
namespace Py
open PySem (Str sizeLine)
def takeJG (pf : Op2) (u v : Int) (G1 G2 G3 : Den) : DenS :=
  (sSeq (sIf (tVal (eBin oGt (eBin oIdx (eVar 0) (eC (.int 0))) (eC (.int 0))))
    (sSeq (sSet 2 (eBin oMod (eFn oInt (dCons (eBin oIdx (eVar 0) (eC (.int 0))) dNil)) (eVar 1)))
    (sSeq (sExpr (eSetI (eBin oFdiv (eBin oIdx (eVar 0) (eC (.int 0))) (eVar 1)) (eVar 0) (eC (.int 0))))
    (sRet (eVar 2))))
    sPass)
    (sSeq (sExpr (eSetI (eBin oCat (eBin oIdx (eVar 0) (eC (.int 2))) (eC (.int 1))) (eVar 0) (eC (.int 2))))
    (sSeq (sSet 3 (eBin oMod (eFn oInt (dCons (eBin oCat (eBin pf (eBin oCat (eBin oIdx (eVar 0) (eC (.int 1))) (eBin oRep (eC (.int u)) (eBin oIdx (eVar 0) (eC (.int 2))))) (eC (.int 3))) (eBin oIdx (eVar 0) (eC (.int 2)))) dNil)) G1))
    (sSeq (sSet 3 (eBin oMod (eFn oInt (dCons (eBin oCat (eBin pf (eBin oCat (eVar 3) (eBin oRep (eC (.int v)) (eBin oIdx (eVar 0) (eC (.int 2))))) (eC (.int 3))) (eVar 3)) dNil)) G2))
    (sRet (eBin oMod (eFn oInt (dCons (eBin oFdiv (eVar 3) G3) dNil)) (eVar 1)))))))
def takeJ (u v : Int) : DenS := takeJG oPowW u v (eBin oCat (eBin oPow (eC (.int 10)) (eC (.int 39))) (eC (.int 3))) (eBin oCat (eBin oPow (eC (.int 10)) (eC (.int 37))) (eC (.int 43))) (eBin oPow (eC (.int 10)) (eC (.int 11)))
theorem pow11 {S : Store} : oPow (.int 10) (.int 11) S = .ok (.int 100000000000) S := by rw [oPow_i (by decide)]; rfl
theorem pow39 {S : Store} : oPow (.int 10) (.int 39) S = .ok (.int 1000000000000000000000000000000000000000) S := by rw [oPow_i (by decide)]; rfl
theorem pow37 {S : Store} : oPow (.int 10) (.int 37) S = .ok (.int 10000000000000000000000000000000000000) S := by rw [oPow_i (by decide)]; rfl
theorem e39 : (1000000000000000000000000000000000000000 : Int) + 3 = 1000000000000000000000000000000000000003 := rfl
theorem e37 : (10000000000000000000000000000000000000 : Int) + 43 = 10000000000000000000000000000000000043 := rfl
theorem l39 : (0 : Int) < 1000000000000000000000000000000000000003 := by decide
theorem l37 : (0 : Int) < 10000000000000000000000000000000000043 := by decide
theorem g39 {e : Env} {S : Store} : eBin oCat (eBin oPow (eC (.int 10)) (eC (.int 39))) (eC (.int 3)) e S = .ok (.int 1000000000000000000000000000000000000003) S := by
  simp only [eBin_ap, eC_ap, R.bind, pow39, oCat_i, e39]
theorem g37 {e : Env} {S : Store} : eBin oCat (eBin oPow (eC (.int 10)) (eC (.int 37))) (eC (.int 43)) e S = .ok (.int 10000000000000000000000000000000000043) S := by
  simp only [eBin_ap, eC_ap, R.bind, pow37, oCat_i, e37]
theorem g11 {e : Env} {S : Store} : eBin oPow (eC (.int 10)) (eC (.int 11)) e S = .ok (.int 100000000000) S := by
  simp only [eBin_ap, eC_ap, R.bind, pow11]
theorem bag_q3 {y v c : Int} (y0 : 0 ≤ y) (y1 : y < 1000000000000000000000000000000000000003) (hv : 0 ≤ v ∧ v < 1000000000000) (hc : 0 ≤ c ∧ c ≤ 1000000) : (y + v * (c + 1)).natAbs < 2 ^ 1000 := by
  have huc : (v * (c + 1)).natAbs ≤ 1000000000000 * 10000000 := by
    rw [Int.natAbs_mul]
    exact Nat.mul_le_mul (by omega) (by omega)
  have h2 := Int.natAbs_add_le y (v * (c + 1))
  refine sm (B := 2000000000000000000000000000000000000003) ?_ (by decide)
  generalize v * (c + 1) = z at *
  omega
theorem takeJ_core {N : Nat} {S : Store} {p : Nat} {m u v M1 M2 M3 : Int} {G1 G2 G3 : Den} {pf : Op2} (hpf : ∀ {a : Int} {S : Store}, a.natAbs < 2 ^ 1000 → pf (.int a) (.int 3) S = .ok (.int (a ^ 3)) S) (hP : PotC N S p) (h0 : 0 < m) (hdm : divOk m = true) (hN : N ≤ 1000000) (hu : 0 ≤ u ∧ u < 1000000000000) (hv : 0 ≤ v ∧ v < 1000000000000)
    (d1 : ∀ e S, G1 e S = .ok (.int M1) S) (d2 : ∀ e S, G2 e S = .ok (.int M2) S) (d3 : ∀ e S, G3 e S = .ok (.int M3) S) (l1 : 0 < M1) (l2 : 0 < M2) (e8 : divOk M3 = true)
    (q2 : ∀ y c, 0 ≤ y → y < M1 → 0 ≤ c ∧ c ≤ 1000000 → (y + v * (c + 1)).natAbs < 2 ^ 1000) :
    ∃ w S', runBody (takeJG pf u v G1 G2 G3) 4 [.ref p, .int m] S = .ok (.int w) S' ∧ 0 ≤ w ∧ w < m ∧ PotC (N + 1) S' p ∧ Fr1 S S' p := by
  have hm0 : m ≠ 0 := by omega
  obtain ⟨a, b, c, g, ha, hb, hb2, hc, hc2⟩ := id hP
  unfold runBody takeJG
  simp only [List.map_cons, List.map_nil, List.length_cons, List.length_nil, List.replicate, List.cons_append, List.nil_append]
  by_cases hr : 0 < a
  · have g1 : (S.set p (.lst [.int (a.fdiv m), .int b, .int c]))[p]? = some (.lst [.int (a.fdiv m), .int b, .int c]) := List.getElem?_set_self (lt_of_get g)
    refine ⟨a.fmod m, _, ?_, Int.fmod_nonneg_of_pos _ h0, Int.fmod_lt_of_pos _ h0, ⟨_, _, _, g1, Int.fdiv_nonneg ha (by omega), hb, hb2, hc, by omega⟩, .set⟩
    simp only [sSeq_ap, sIf_ap, tVal_ap, eBin_ap, eVar_c0, eVar_c, eC_ap, R.bind, idx_ref g atI_c0, oGt_i, hr, decide_true, if_true, sSet_ap, eFn_ap, dCons_ap, dNil_ap, oInt_i, oMod_i hm0, List.set, sExpr_ap, eSetI_ap, oFdiv_i hdm, chg_at g kSet_c0, sRet_ap]
  · have g1 : (S.set p (.lst [.int a, .int b, .int (c + 1)]))[p]? = some (.lst [.int a, .int b, .int (c + 1)]) := List.getElem?_set_self (lt_of_get g)
    have m1 := bag_m1 hu (c := c) ⟨hc, by omega⟩
    have m2 := bag_m1 hv (c := c) ⟨hc, by omega⟩
    have q1 := bag_q1 hb hb2 hu (c := c) ⟨hc, by omega⟩
    have k1 := hpf (S := S.set p (.lst [.int a, .int b, .int (c + 1)])) q1
    generalize (b + u * (c + 1)) ^ 3 = Y at k1
    have y0 := Int.fmod_nonneg_of_pos (Y + (c + 1)) l1
    have y1 := Int.fmod_lt_of_pos (Y + (c + 1)) l1
    generalize hy : (Y + (c + 1)).fmod M1 = y at y0 y1
    have k2 := hpf (S := S.set p (.lst [.int a, .int b, .int (c + 1)])) (q2 y c y0 y1 ⟨hc, by omega⟩)
    generalize (y + v * (c + 1)) ^ 3 = Z at k2
    generalize hz : (Z + y).fmod M2 = z
    refine ⟨(z.fdiv M3).fmod m, _, ?_, Int.fmod_nonneg_of_pos _ h0, Int.fmod_lt_of_pos _ h0, ⟨_, _, _, g1, ha, hb, hb2, by omega, by omega⟩, .set⟩
    have s0 : (sIf (tVal (eBin oGt (eBin oIdx (eVar 0) (eC (.int 0))) (eC (.int 0))))
    (sSeq (sSet 2 (eBin oMod (eFn oInt (dCons (eBin oIdx (eVar 0) (eC (.int 0))) dNil)) (eVar 1)))
    (sSeq (sExpr (eSetI (eBin oFdiv (eBin oIdx (eVar 0) (eC (.int 0))) (eVar 1)) (eVar 0) (eC (.int 0))))
    (sRet (eVar 2))))
    sPass) [some (.ref p), some (.int m), none, none] S = .next [some (.ref p), some (.int m), none, none] S := by
      simp only [sIf_ap, tVal_ap, eBin_ap, eVar_c0, eVar_c, eC_ap, R.bind, idx_ref g atI_c0, oGt_i, hr, decide_false, Bool.false_eq_true, if_false, sPass_ap]
    have s1 : sExpr (eSetI (eBin oCat (eBin oIdx (eVar 0) (eC (.int 2))) (eC (.int 1))) (eVar 0) (eC (.int 2))) [some (.ref p), some (.int m), none, none] S = .next [some (.ref p), some (.int m), none, none] (S.set p (.lst [.int a, .int b, .int (c + 1)])) := by
      simp only [sExpr_ap, eSetI_ap, eBin_ap, eVar_c0, eVar_c, eC_ap, R.bind, idx_ref g atI_c2, oCat_i, chg_at g kSet_c2]
    generalize S.set p (.lst [.int a, .int b, .int (c + 1)]) = S1 at *
    have s2 : sSet 3 (eBin oMod (eFn oInt (dCons (eBin oCat (eBin pf (eBin oCat (eBin oIdx (eVar 0) (eC (.int 1))) (eBin oRep (eC (.int u)) (eBin oIdx (eVar 0) (eC (.int 2))))) (eC (.int 3))) (eBin oIdx (eVar 0) (eC (.int 2)))) dNil)) G1) [some (.ref p), some (.int m), none, none] S1 = .next [some (.ref p), some (.int m), none, some (.int y)] S1 := by
      simp only [sSet_ap, eFn_ap, dCons_ap, dNil_ap, eBin_ap, eVar_c0, eVar_c, eC_ap, R.bind, idx_ref g1 atI_c1, idx_ref g1 atI_c2, oRep_i m1, oCat_i, k1, oInt_i, d1, modOk l1, hy, List.set]
    have s3 : sSet 3 (eBin oMod (eFn oInt (dCons (eBin oCat (eBin pf (eBin oCat (eVar 3) (eBin oRep (eC (.int v)) (eBin oIdx (eVar 0) (eC (.int 2))))) (eC (.int 3))) (eVar 3)) dNil)) G2) [some (.ref p), some (.int m), none, some (.int y)] S1 = .next [some (.ref p), some (.int m), none, some (.int z)] S1 := by
      simp only [sSet_ap, eFn_ap, dCons_ap, dNil_ap, eBin_ap, eVar_c0, eVar_c, eC_ap, R.bind, idx_ref g1 atI_c2, oRep_i m2, oCat_i, k2, oInt_i, d2, modOk l2, hz, List.set]
    rw [sSeq_ap, s0]
    dsimp only
    rw [sSeq_ap, s1]
    dsimp only
    rw [sSeq_ap, s2]
    dsimp only
    rw [sSeq_ap, s3]
    dsimp only
    simp only [sRet_ap, eFn_ap, dCons_ap, dNil_ap, eBin_ap, eVar_c0, eVar_c, eC_ap, R.bind, d3, oFdiv_i e8, oInt_i, oMod_i hm0]
theorem tkJ_of {Γ : Calls} {i : Nat} {u v : Int} (hu : 0 ≤ u ∧ u < 1000000000000) (hv : 0 ≤ v ∧ v < 1000000000000) (h : ∀ args S, Γ i args S = tidy S (runBody (takeJ u v) 4 args S)) : TkC Γ i := fun {N S p m} hP h0 h1 hN => by
  obtain ⟨w, S', hr, v0, v1, P', F'⟩ := takeJ_core pw_ok hP h0 (divOk_small (by omega) h1) hN hu hv (fun e S => g39) (fun e S => g37) (fun e S => g11) l39 l37 (by decide) fun y c y0 y1 hc => bag_q3 y0 y1 hv hc
  rw [h]
  have hr2 : runBody (takeJ u v) 4 [.ref p, .int m] S = .ok (.int w) S' := hr
  rw [hr2, tidy_same F'.1]
  exact ⟨w, rfl, v0, v1, P', F'⟩
end Py

set_option maxHeartbeats 4000000
namespace K73
open PySem PySem.Spec PyProof.Rows L2 Py
/-! the text of the row: its tops -/
def top (i : Nat) : Stmt := PySem.Challenge.pw_wholerates_k73_messages_that_are_asked.main.body.getD i (.Pass ⟨0, 0, 0, 0⟩)
abbrev anc : Anc := [[0], [1, 0], [2, 0], [3, 0]]
abbrev csN : List Str := [(PySem.Str.ofString "WorthError"), (PySem.Str.ofString "InvalidNumber"), (PySem.Str.ofString "InvalidSigns"), (PySem.Str.ofString "InvalidNote")]
abbrev ca (K : PySem.W.Frag) (c : Nat) : Addr := He.ga K (csN.getD c Str.empty)
/-! ### what each def does -/
/-- is_number -/
noncomputable def d0 (Γ : Calls) : DenS :=
  (sSeq (sAsg (gTup ((gNm 1) :: ((gNm 2) :: []))) (eVar 0))
    (sRet (eAnd (eBin oGe (eVar 2) (eC (.int 1))) (eBin oEq (eFn oGcd (dCons (eVar 1) (dCons (eVar 2) dNil))) (eC (.int 1))))))
abbrev N0 : List Str := [(PySem.Str.ofString "value"), (PySem.Str.ofString "above"), (PySem.Str.ofString "below")]
abbrev P0 : List Str := [(PySem.Str.ofString "value")]
/-- checked_signs -/
noncomputable def d1 (Γ : Calls) : DenS :=
  (sSeq (sSet 1 (eC (.str (PySem.Str.ofString ""))))
    (sSeq (sFor (gNm 2) (dSeqS (eVar 0))
    (sSeq (sIf (tOr (tVal (eBin (oInS true) (eVar 2) (eC (.str (PySem.Str.ofString "abcdefghijklmnopqrstuvwxyz"))))) (tVal (eBin oLeS (eVar 2) (eVar 1))))
    (sRaise 2 (eVar 0))
    sPass)
    (sSet 1 (eVar 2))))
    (sIf (tVal (eBin oEq (eVar 0) (eC (.str (PySem.Str.ofString "")))))
    (sRaise 2 (eVar 0))
    sPass)))
abbrev N1 : List Str := [(PySem.Str.ofString "signs"), (PySem.Str.ofString "last"), (PySem.Str.ofString "sign")]
abbrev P1 : List Str := [(PySem.Str.ofString "signs")]
/-- messages_of -/
noncomputable def d2 (Γ : Calls) : DenS :=
  (sSeq (sSet 2 (eLst (dCons (eC (.str (PySem.Str.ofString ""))) dNil)))
    (sSeq (sFor (gNm 3) (dRng1 (eVar 1))
    (sSet 2 (eLc2 [4, 5] [5] (dSeq (eVar 2)) (gNm 4) (dSeqS (eVar 0)) (gNm 5) (eBin oCat (eVar 4) (eVar 5)))))
    (sRet (eVar 2))))
abbrev N2 : List Str := [(PySem.Str.ofString "signs"), (PySem.Str.ofString "length"), (PySem.Str.ofString "found"), (PySem.Str.ofString "_"), (PySem.Str.ofString "message"), (PySem.Str.ofString "sign")]
abbrev P2 : List Str := [(PySem.Str.ofString "signs"), (PySem.Str.ofString "length")]
/-- messages_below -/
noncomputable def d3 (Γ : Calls) : DenS :=
  (sSeq (sSet 2 (eNew dNil))
    (sSeq (sFor (gNm 3) (dRng1 (eVar 1))
    (sExpr (eExt (rcv (eVar 2)) (eCall Γ 2 (dCons (eVar 0) (dCons (eVar 3) dNil))))))
    (sRet (eVar 2))))
abbrev N3 : List Str := [(PySem.Str.ofString "signs"), (PySem.Str.ofString "length"), (PySem.Str.ofString "found"), (PySem.Str.ofString "size")]
abbrev P3 : List Str := [(PySem.Str.ofString "signs"), (PySem.Str.ofString "length")]
/-- checked_size -/
noncomputable def d4 (Γ : Calls) : DenS :=
  (sIf (tVal (eBin oLt (eVar 0) (eC (.int 0))))
    (sRaise 1 (eVar 0))
    sPass)
abbrev N4 : List Str := [(PySem.Str.ofString "size")]
abbrev P4 : List Str := [(PySem.Str.ofString "size")]
/-- checked_answers -/
noncomputable def d5 (Γ : Calls) : DenS :=
  (sSeq (sSet 2 eDNew)
    (sSeq (sFor (gNm 3) (dSeq (eVar 1))
    (sSeq (sAsg (gTup ((gNm 4) :: ((gNm 5) :: []))) (eVar 3))
    (sSeq (sSet 6 (eFn oAll (dCons (eLc [7] (dSeqS (eVar 4)) (gNm 7) tYesD (eBin (oInS false) (eVar 7) (eVar 0))) dNil)))
    (sSeq (sIf (tOr (tNot (tVal (eVar 6))) (tOr (tVal (eBin (oInD false) (eVar 4) (eVar 2))) (tNot (tVal (eCall Γ 0 (dCons (eVar 5) dNil))))))
    (sRaise 3 (eVar 3))
    sPass)
    (sExpr (eSetD (eVar 5) (eVar 2) (eVar 4)))))))
    (sRet (eVar 2))))
abbrev N5 : List Str := [(PySem.Str.ofString "signs"), (PySem.Str.ofString "answers"), (PySem.Str.ofString "found"), (PySem.Str.ofString "answer"), (PySem.Str.ofString "message"), (PySem.Str.ofString "number"), (PySem.Str.ofString "known"), (PySem.Str.ofString "sign")]
abbrev P5 : List Str := [(PySem.Str.ofString "signs"), (PySem.Str.ofString "answers")]
/-- asked -/
noncomputable def d6 (Γ : Calls) : DenS :=
  (sSeq (sExpr (eCall Γ 1 (dCons (eVar 0) dNil)))
    (sSeq (sExpr (eCall Γ 4 (dCons (eVar 1) dNil)))
    (sRet (eCall Γ 3 (dCons (eVar 0) (dCons (eBin oRep (eC (.int 2)) (eVar 1)) dNil))))))
abbrev N6 : List Str := [(PySem.Str.ofString "signs"), (PySem.Str.ofString "size")]
abbrev P6 : List Str := [(PySem.Str.ofString "signs"), (PySem.Str.ofString "size")]
/-- next_message -/
noncomputable def d7 (Γ : Calls) : DenS :=
  (sSeq (sSet 3 (eCall Γ 6 (dCons (eVar 0) (dCons (eVar 1) dNil))))
    (sSeq (sSet 4 (eCall Γ 5 (dCons (eVar 0) (dCons (eVar 2) dNil))))
    (sSeq (sFor (gNm 5) (dSeq (eVar 3))
    (sIf (tVal (eBin (oInD true) (eVar 5) (eVar 4)))
    (sRet (eVar 5))
    sPass))
    (sRet (eC .non)))))
abbrev N7 : List Str := [(PySem.Str.ofString "signs"), (PySem.Str.ofString "size"), (PySem.Str.ofString "answers"), (PySem.Str.ofString "wanted"), (PySem.Str.ofString "found"), (PySem.Str.ofString "message")]
abbrev P7 : List Str := [(PySem.Str.ofString "signs"), (PySem.Str.ofString "size"), (PySem.Str.ofString "answers")]
/-- _law_well -/
noncomputable def d8 (Γ : Calls) : DenS :=
  (sSeq (sSet 2 (eC (.int 0)))
    (sSeq (sIf (tVal (eBin oLt (eVar 1) (eFn oLen (dCons (eVar 0) dNil))))
    (sSet 2 (eFn oInt (dCons (eBin oIdx (eVar 0) (eVar 1)) dNil)))
    sPass)
    (sRet (eNew (dCons (eFn oMax2 (dCons (eC (.int 0)) (dCons (eBin oSub (eFn oAbs (dCons (eVar 2) dNil)) (eBin oPow (eC (.int 10)) (eC (.int 18)))) dNil))) (dCons (eBin oCat (eBin oCat (eBin oRep (eBin oMod (eFn oInt (dCons (eVar 2) dNil)) (eBin oCat (eBin oPow (eC (.int 10)) (eC (.int 33))) (eC (.int 61)))) (eC (.int 41))) (eBin oRep (eC (.int 13)) (eVar 1))) (eC (.int 5))) (dCons (eC (.int 0)) dNil)))))))
abbrev N8 : List Str := [(PySem.Str.ofString "script"), (PySem.Str.ofString "k"), (PySem.Str.ofString "cell")]
abbrev P8 : List Str := [(PySem.Str.ofString "script"), (PySem.Str.ofString "k")]
/-- _law_draw -/
noncomputable def d9 (Γ : Calls) : DenS :=
  (sSeq (sIf (tVal (eBin oGt (eBin oIdx (eVar 0) (eC (.int 0))) (eC (.int 0))))
    (sSeq (sSet 2 (eBin oMod (eFn oInt (dCons (eBin oIdx (eVar 0) (eC (.int 0))) dNil)) (eVar 1)))
    (sSeq (sExpr (eSetI (eBin oFdiv (eBin oIdx (eVar 0) (eC (.int 0))) (eVar 1)) (eVar 0) (eC (.int 0))))
    (sRet (eVar 2))))
    sPass)
    (sSeq (sExpr (eSetI (eBin oCat (eBin oIdx (eVar 0) (eC (.int 2))) (eC (.int 1))) (eVar 0) (eC (.int 2))))
    (sSeq (sSet 3 (eBin oMod (eFn oInt (dCons (eBin oCat (eBin oPowW (eBin oCat (eBin oIdx (eVar 0) (eC (.int 1))) (eBin oRep (eC (.int 86028121)) (eBin oIdx (eVar 0) (eC (.int 2))))) (eC (.int 3))) (eBin oIdx (eVar 0) (eC (.int 2)))) dNil)) (eBin oCat (eBin oPow (eC (.int 10)) (eC (.int 39))) (eC (.int 3)))))
    (sSeq (sSet 3 (eBin oMod (eFn oInt (dCons (eBin oCat (eBin oPowW (eBin oCat (eVar 3) (eBin oRep (eC (.int 32452843)) (eBin oIdx (eVar 0) (eC (.int 2))))) (eC (.int 3))) (eVar 3)) dNil)) (eBin oCat (eBin oPow (eC (.int 10)) (eC (.int 37))) (eC (.int 43)))))
    (sRet (eBin oMod (eFn oInt (dCons (eBin oFdiv (eVar 3) (eBin oPow (eC (.int 10)) (eC (.int 11)))) dNil)) (eVar 1)))))))
abbrev N9 : List Str := [(PySem.Str.ofString "well"), (PySem.Str.ofString "many"), (PySem.Str.ofString "found"), (PySem.Str.ofString "mixed")]
abbrev P9 : List Str := [(PySem.Str.ofString "well"), (PySem.Str.ofString "many")]
/-- _law_letters -/
noncomputable def d10 (Γ : Calls) : DenS :=
  (sSeq (sPar 2 3 (eNew (dFn oListS (dCons (eC (.str (PySem.Str.ofString "abcdefghijklmnopqrstuvwxyz"))) dNil))) (eNew dNil))
    (sSeq (sFor (gNm 4) (dRng1 (eVar 1))
    (sExpr (eApp (rcv (eVar 3)) (ePopAt (rcv (eVar 2)) (eCall Γ 9 (dCons (eVar 0) (dCons (eFn oLen (dCons (eVar 2) dNil)) dNil)))))))
    (sRet (eStr1 stJoin (eC (.str (PySem.Str.ofString ""))) (eLst (dFn oSortS (dCons (eVar 3) dNil)))))))
abbrev N10 : List Str := [(PySem.Str.ofString "well"), (PySem.Str.ofString "many"), (PySem.Str.ofString "left"), (PySem.Str.ofString "found"), (PySem.Str.ofString "turn")]
abbrev P10 : List Str := [(PySem.Str.ofString "well"), (PySem.Str.ofString "many")]
/-- _law_messages -/
noncomputable def d11 (Γ : Calls) : DenS :=
  (sSeq (sPar 2 3 (eNew dNil) (eLst (dCons (eC (.str (PySem.Str.ofString ""))) dNil)))
    (sSeq (sFor (gNm 4) (dRng1 (eVar 1))
    (sSeq (sExpr (eExt (rcv (eVar 2)) (eVar 3)))
    (sSeq (sSet 5 (eNew dNil))
    (sSeq (sFor (gNm 6) (dSeq (eVar 3))
    (sExpr (eExt (rcv (eVar 5)) (eLc [7] (dSeqS (eVar 0)) (gNm 7) tYesD (eBin oCat (eVar 6) (eVar 7))))))
    (sSet 3 (eVar 5))))))
    (sRet (eVar 2))))
abbrev N11 : List Str := [(PySem.Str.ofString "letters"), (PySem.Str.ofString "many"), (PySem.Str.ofString "found"), (PySem.Str.ofString "last"), (PySem.Str.ofString "turn"), (PySem.Str.ofString "more"), (PySem.Str.ofString "head"), (PySem.Str.ofString "letter")]
abbrev P11 : List Str := [(PySem.Str.ofString "letters"), (PySem.Str.ofString "many")]
/-- _law_order -/
noncomputable def d12 (Γ : Calls) : DenS :=
  (sSeq (sPar 2 3 (eCall Γ 9 (dCons (eVar 0) (dCons (eC (.int 4)) dNil))) (eNew (dFn oList (dCons (eVar 1) dNil))))
    (sSeq (sIf (tVal (eBin oEq (eVar 2) (eC (.int 0))))
    (sRet (eLst (dRevL (eVar 3))))
    sPass)
    (sSeq (sIf (tVal (eBin oEq (eVar 2) (eC (.int 1))))
    (sRet (eBin oCat (eLst (dStepL (eVar 3) (some 1) 2)) (eLst (dStepL (eVar 3) none 2))))
    sPass)
    (sSeq (sIf (tVal (eBin oEq (eVar 2) (eC (.int 2))))
    (sSeq (sSet 4 (eCall Γ 9 (dCons (eVar 0) (dCons (eBin oCat (eFn oLen (dCons (eVar 3) dNil)) (eC (.int 1))) dNil))))
    (sRet (eBin oCat (eSl (eVar 3) (oPart (eVar 4)) oNo) (eSl (eVar 3) oNo (oPart (eVar 4))))))
    sPass)
    (sSeq (sSet 5 (eNew dNil))
    (sSeq (sFor (gNm 6) (dRng1 (eFn oLen (dCons (eVar 1) dNil)))
    (sExpr (eApp (rcv (eVar 5)) (ePopAt (rcv (eVar 3)) (eCall Γ 9 (dCons (eVar 0) (dCons (eFn oLen (dCons (eVar 3) dNil)) dNil)))))))
    (sRet (eVar 5))))))))
abbrev N12 : List Str := [(PySem.Str.ofString "well"), (PySem.Str.ofString "rows"), (PySem.Str.ofString "kind"), (PySem.Str.ofString "left"), (PySem.Str.ofString "spot"), (PySem.Str.ofString "found"), (PySem.Str.ofString "turn")]
abbrev P12 : List Str := [(PySem.Str.ofString "well"), (PySem.Str.ofString "rows")]
/-- _law_some -/
noncomputable def d13 (Γ : Calls) : DenS :=
  (sSeq (sPar 2 3 (eCall Γ 9 (dCons (eVar 0) (dCons (eC (.int 6)) dNil))) (eCall Γ 9 (dCons (eVar 0) (dCons (eBin oCat (eFn oLen (dCons (eVar 1) dNil)) (eC (.int 1))) dNil))))
    (sSeq (sIf (tVal (eBin oEq (eVar 2) (eC (.int 0))))
    (sRet (eLst dNil))
    sPass)
    (sSeq (sIf (tVal (eBin oEq (eVar 2) (eC (.int 1))))
    (sRet (eLst (dFn oList (dCons (eVar 1) dNil))))
    sPass)
    (sSeq (sIf (tVal (eBin oEq (eVar 2) (eC (.int 2))))
    (sRet (eSl (eVar 1) oNo (oPart (eVar 3))))
    sPass)
    (sSeq (sIf (tVal (eBin oEq (eVar 2) (eC (.int 3))))
    (sRet (eBin oCat (eSl (eVar 1) oNo (oPart (eVar 3))) (eSl (eVar 1) (oPart (eBin oCat (eVar 3) (eC (.int 1)))) oNo)))
    sPass)
    (sSeq (sIf (tVal (eBin oEq (eVar 2) (eC (.int 4))))
    (sRet (eSl (eVar 1) (oPart (eVar 3)) oNo))
    sPass)
    (sRet (eLc [4] (dSeq (eVar 1)) (gNm 4) (tVal (eBin oGt (eCall Γ 9 (dCons (eVar 0) (dCons (eC (.int 3)) dNil))) (eC (.int 0)))) (eVar 4)))))))))
abbrev N13 : List Str := [(PySem.Str.ofString "well"), (PySem.Str.ofString "due"), (PySem.Str.ofString "kind"), (PySem.Str.ofString "spot"), (PySem.Str.ofString "one")]
abbrev P13 : List Str := [(PySem.Str.ofString "well"), (PySem.Str.ofString "due")]
/-- _law_longer -/
noncomputable def d14 (Γ : Calls) : DenS :=
  (sSeq (sSet 3 (eNew dNil))
    (sSeq (sFor (gNm 4) (dRng1 (eCall Γ 9 (dCons (eVar 0) (dCons (eC (.int 3)) dNil))))
    (sExpr (eApp (rcv (eVar 3)) (eStr1 stJoin (eC (.str (PySem.Str.ofString ""))) (eLc [5] (dRng1 (eBin oCat (eBin oRep (eC (.int 2)) (eVar 2)) (eVar 4))) (gNm 5) tYesD (eBin oIdx (eVar 1) (eCall Γ 9 (dCons (eVar 0) (dCons (eFn oLen (dCons (eVar 1) dNil)) dNil)))))))))
    (sRet (eVar 3))))
abbrev N14 : List Str := [(PySem.Str.ofString "well"), (PySem.Str.ofString "letters"), (PySem.Str.ofString "most"), (PySem.Str.ofString "found"), (PySem.Str.ofString "turn"), (PySem.Str.ofString "j")]
abbrev P14 : List Str := [(PySem.Str.ofString "well"), (PySem.Str.ofString "letters"), (PySem.Str.ofString "most")]
/-- _law_number -/
noncomputable def d15 (Γ : Calls) : DenS :=
  (sSeq (sSet 1 (eCall Γ 9 (dCons (eVar 0) (dCons (eC (.int 3)) dNil))))
    (sSeq (sIf (tVal (eBin oEq (eVar 1) (eC (.int 0))))
    (sRet (eTup (dCons (eBin oSub (eCall Γ 9 (dCons (eVar 0) (dCons (eC (.int 19)) dNil))) (eC (.int 9))) (dCons (eC (.int 1)) dNil))))
    sPass)
    (sSeq (sIf (tVal (eBin oEq (eVar 1) (eC (.int 1))))
    (sRet (eTup (dCons (eBin oSub (eBin oRep (eC (.int 2)) (eCall Γ 9 (dCons (eVar 0) (dCons (eC (.int 9)) dNil)))) (eC (.int 9))) (dCons (eC (.int 2)) dNil))))
    sPass)
    (sRet (eTup (dCons (eBin oCat (eBin oPow (eC (.int 10)) (eC (.int 8))) (eCall Γ 9 (dCons (eVar 0) (dCons (eBin oRep (eC (.int 9)) (eBin oPow (eC (.int 10)) (eC (.int 8)))) dNil)))) (dCons (eC (.int 1)) dNil)))))))
abbrev N15 : List Str := [(PySem.Str.ofString "well"), (PySem.Str.ofString "kind")]
abbrev P15 : List Str := [(PySem.Str.ofString "well")]
/-- _law_listed -/
noncomputable def d16 (Γ : Calls) : DenS :=
  (sSeq (sSet 4 (eIf (tVal (eBin oEq (eCall Γ 9 (dCons (eVar 0) (dCons (eC (.int 2)) dNil))) (eC (.int 0)))) (eCall Γ 6 (dCons (eVar 1) (dCons (eVar 2) dNil))) (eCallP Γ 6 [1, 0] dNil (dCons (eVar 2) (dCons (eVar 1) dNil)))))
    (sSeq (sIf (tOr (tNot (tVal (eIsi anc [(.ty .list)] (eVar 4)))) (tOr (tVal (eBin oNe (eLc [5] (dSeq (eVar 4)) (gNm 5) (tNot (tVal (eIsi anc [(.ty .str)] (eVar 5)))) (eVar 5)) (eLst dNil))) (tVal (eBin oNe (eVar 4) (eVar 3)))))
    (sRet (eC (.bl false)))
    sPass)
    (sSeq (sExpr (eRev (eVar 4)))
    (sSeq (sExpr (eApp (rcv (eVar 4)) (eC (.str (PySem.Str.ofString "zz")))))
    (sRet (eBin oEq (eCall Γ 6 (dCons (eVar 1) (dCons (eVar 2) dNil))) (eVar 3)))))))
abbrev N16 : List Str := [(PySem.Str.ofString "well"), (PySem.Str.ofString "letters"), (PySem.Str.ofString "most"), (PySem.Str.ofString "due"), (PySem.Str.ofString "made"), (PySem.Str.ofString "one")]
abbrev P16 : List Str := [(PySem.Str.ofString "well"), (PySem.Str.ofString "letters"), (PySem.Str.ofString "most"), (PySem.Str.ofString "due")]
/-- _law_next -/
noncomputable def d17 (Γ : Calls) : DenS :=
  (sSeq (sSet 4 (eNew (dFn oList (dCons (eVar 2) dNil))))
    (sSeq (sIf (tVal (eVar 3))
    (sSet 5 (eCallP Γ 7 [1, 2, 0] dNil (dCons (eVar 4) (dCons (eVar 0) (dCons (eVar 1) dNil)))))
    (sSet 5 (eCall Γ 7 (dCons (eVar 0) (dCons (eVar 1) (dCons (eVar 4) dNil))))))
    (sSeq (sSet 6 (eBin oEq (eVar 4) (eVar 2)))
    (sSeq (sExpr (eClr (eVar 4)))
    (sRet (eIf (tVal (eVar 6)) (eVar 5) (eC (.str (PySem.Str.ofString "spoilt")))))))))
abbrev N17 : List Str := [(PySem.Str.ofString "letters"), (PySem.Str.ofString "most"), (PySem.Str.ofString "notes"), (PySem.Str.ofString "by_name"), (PySem.Str.ofString "handed"), (PySem.Str.ofString "made"), (PySem.Str.ofString "same")]
abbrev P17 : List Str := [(PySem.Str.ofString "letters"), (PySem.Str.ofString "most"), (PySem.Str.ofString "notes"), (PySem.Str.ofString "by_name")]
/-- _law_nexts -/
noncomputable def d18 (Γ : Calls) : DenS :=
  (sSeq (sFor (gNm 5) (dRng1 (eC (.int 4)))
    (sSeq (sSet 6 (eFn oDictP (dCons (eLc [10] (dSeq (eVar 4)) (gNm 10) tYesD (eTup (dCons (eBin oIdx (eVar 10) (eC (.int 0))) (dCons (eC (.bl true)) dNil)))) dNil)))
    (sSeq (sSet 7 (eLc [11] (dSeq (eVar 3)) (gNm 11) (tVal (eBin (oInD true) (eVar 11) (eVar 6))) (eVar 11)))
    (sSeq (sSet 8 (eCall Γ 17 (dCons (eVar 1) (dCons (eVar 2) (dCons (eVar 4) (dCons (eBin oEq (eCall Γ 9 (dCons (eVar 0) (dCons (eC (.int 2)) dNil))) (eC (.int 0))) dNil))))))
    (sSeq (sIf (tVal (eBin oEq (eVar 7) (eLst dNil)))
    (sRet (eUn oIsN (eVar 8)))
    sPass)
    (sSeq (sIf (tOr (tNot (tVal (eIsi anc [(.ty .str)] (eVar 8)))) (tVal (eBin oNe (eVar 8) (eBin oIdx (eVar 7) (eC (.int 0))))))
    (sRet (eC (.bl false)))
    sPass)
    (sSeq (sSet 9 (eLst (dCons (eTup (dCons (eBin oIdx (eVar 7) (eC (.int 0))) (dCons (eCall Γ 15 (dCons (eVar 0) dNil)) dNil))) dNil)))
    (sSet 4 (eIf (tVal (eBin oEq (eCall Γ 9 (dCons (eVar 0) (dCons (eC (.int 2)) dNil))) (eC (.int 0)))) (eBin oCat (eVar 4) (eVar 9)) (eBin oCat (eVar 9) (eVar 4)))))))))))
    (sRet (eC (.bl true))))
abbrev N18 : List Str := [(PySem.Str.ofString "well"), (PySem.Str.ofString "letters"), (PySem.Str.ofString "most"), (PySem.Str.ofString "due"), (PySem.Str.ofString "notes"), (PySem.Str.ofString "turn"), (PySem.Str.ofString "known"), (PySem.Str.ofString "left"), (PySem.Str.ofString "made"), (PySem.Str.ofString "more"), (PySem.Str.ofString "note"), (PySem.Str.ofString "one")]
abbrev P18 : List Str := [(PySem.Str.ofString "well"), (PySem.Str.ofString "letters"), (PySem.Str.ofString "most"), (PySem.Str.ofString "due"), (PySem.Str.ofString "notes")]
/-- law -/
noncomputable def d19 (Γ : Calls) : DenS :=
  (sSeq (sFor (gNm 1) (dRng1 (eFn oMax2 (dCons (eC (.int 1)) (dCons (eFn oMin2 (dCons (eC (.int 3)) (dCons (eFn oLen (dCons (eVar 0) dNil)) dNil))) dNil))))
    (sSeq (sSet 2 (eCall Γ 8 (dCons (eVar 0) (dCons (eVar 1) dNil))))
    (sSeq (sSet 3 (eCall Γ 10 (dCons (eVar 2) (dCons (eBin oCat (eC (.int 1)) (eCall Γ 9 (dCons (eVar 2) (dCons (eC (.int 3)) dNil)))) dNil))))
    (sSeq (sSet 4 (eCall Γ 9 (dCons (eVar 2) (dCons (eIf (tVal (eBin oEq (eFn oLen (dCons (eVar 3) dNil)) (eC (.int 1)))) (eC (.int 9)) (eC (.int 4))) dNil))))
    (sSeq (sSet 5 (eCall Γ 11 (dCons (eVar 3) (dCons (eBin oRep (eC (.int 2)) (eVar 4)) dNil))))
    (sSeq (sSet 6 (eBin oCat (eCall Γ 13 (dCons (eVar 2) (dCons (eVar 5) dNil))) (eCall Γ 14 (dCons (eVar 2) (dCons (eVar 3) (dCons (eVar 4) dNil))))))
    (sSeq (sSet 7 (eCall Γ 12 (dCons (eVar 2) (dCons (eLc [8] (dSeq (eVar 6)) (gNm 8) tYesD (eTup (dCons (eVar 8) (dCons (eCall Γ 15 (dCons (eVar 2) dNil)) dNil)))) dNil))))
    (sIf (tOr (tNot (tVal (eCall Γ 16 (dCons (eVar 2) (dCons (eVar 3) (dCons (eVar 4) (dCons (eVar 5) dNil))))))) (tNot (tVal (eCall Γ 18 (dCons (eVar 2) (dCons (eVar 3) (dCons (eVar 4) (dCons (eVar 5) (dCons (eVar 7) dNil)))))))))
    (sRet (eC (.bl false)))
    sPass))))))))
    (sRet (eC (.bl true))))
abbrev N19 : List Str := [(PySem.Str.ofString "script"), (PySem.Str.ofString "k"), (PySem.Str.ofString "well"), (PySem.Str.ofString "letters"), (PySem.Str.ofString "most"), (PySem.Str.ofString "due"), (PySem.Str.ofString "picked"), (PySem.Str.ofString "notes"), (PySem.Str.ofString "one")]
abbrev P19 : List Str := [(PySem.Str.ofString "script")]
/-! ### what is called -/
noncomputable def stepC (Γ : Calls) : Calls := fun i => match i with
    | 0 => runTidy (d0 Γ) 3
    | 1 => runTidy (d1 Γ) 3
    | 2 => runTidy (d2 Γ) 6
    | 3 => runBody (d3 Γ) 4
    | 4 => runTidy (d4 Γ) 1
    | 5 => runTidy (d5 Γ) 8
    | 6 => runBody (d6 Γ) 2
    | 7 => runTidy (d7 Γ) 6
    | 8 => runBody (d8 Γ) 3
    | 9 => runTidy (d9 Γ) 4
    | 10 => runTidy (d10 Γ) 5
    | 11 => runTidy (d11 Γ) 8
    | 12 => runTidy (d12 Γ) 7
    | 13 => runTidy (d13 Γ) 5
    | 14 => runTidy (d14 Γ) 6
    | 15 => runTidy (d15 Γ) 2
    | 16 => runTidy (d16 Γ) 6
    | 17 => runTidy (d17 Γ) 7
    | 18 => runTidy (d18 Γ) 12
    | 19 => runTidy (d19 Γ) 9
    | _ => fun _ _ => .bad
noncomputable def calls : Nat → Calls
  | 0 => fun _ _ _ => .bad
  | n + 1 => stepC (calls n)
theorem c0 {n : Nat} {args : List D} {S : Store} : calls (n + 1) 0 args S = tidy S (runBody (d0 (calls n)) 3 args S) := rfl
theorem c1 {n : Nat} {args : List D} {S : Store} : calls (n + 1) 1 args S = tidy S (runBody (d1 (calls n)) 3 args S) := rfl
theorem c2 {n : Nat} {args : List D} {S : Store} : calls (n + 1) 2 args S = tidy S (runBody (d2 (calls n)) 6 args S) := rfl
theorem c3 {n : Nat} {args : List D} {S : Store} : calls (n + 1) 3 args S = runBody (d3 (calls n)) 4 args S := rfl
theorem c4 {n : Nat} {args : List D} {S : Store} : calls (n + 1) 4 args S = tidy S (runBody (d4 (calls n)) 1 args S) := rfl
theorem c5 {n : Nat} {args : List D} {S : Store} : calls (n + 1) 5 args S = tidy S (runBody (d5 (calls n)) 8 args S) := rfl
theorem c6 {n : Nat} {args : List D} {S : Store} : calls (n + 1) 6 args S = runBody (d6 (calls n)) 2 args S := rfl
theorem c7 {n : Nat} {args : List D} {S : Store} : calls (n + 1) 7 args S = tidy S (runBody (d7 (calls n)) 6 args S) := rfl
theorem c8 {n : Nat} {args : List D} {S : Store} : calls (n + 1) 8 args S = runBody (d8 (calls n)) 3 args S := rfl
theorem c9 {n : Nat} {args : List D} {S : Store} : calls (n + 1) 9 args S = tidy S (runBody (d9 (calls n)) 4 args S) := rfl
theorem c10 {n : Nat} {args : List D} {S : Store} : calls (n + 1) 10 args S = tidy S (runBody (d10 (calls n)) 5 args S) := rfl
theorem c11 {n : Nat} {args : List D} {S : Store} : calls (n + 1) 11 args S = tidy S (runBody (d11 (calls n)) 8 args S) := rfl
theorem c12 {n : Nat} {args : List D} {S : Store} : calls (n + 1) 12 args S = tidy S (runBody (d12 (calls n)) 7 args S) := rfl
theorem c13 {n : Nat} {args : List D} {S : Store} : calls (n + 1) 13 args S = tidy S (runBody (d13 (calls n)) 5 args S) := rfl
theorem c14 {n : Nat} {args : List D} {S : Store} : calls (n + 1) 14 args S = tidy S (runBody (d14 (calls n)) 6 args S) := rfl
theorem c15 {n : Nat} {args : List D} {S : Store} : calls (n + 1) 15 args S = tidy S (runBody (d15 (calls n)) 2 args S) := rfl
theorem c16 {n : Nat} {args : List D} {S : Store} : calls (n + 1) 16 args S = tidy S (runBody (d16 (calls n)) 6 args S) := rfl
theorem c17 {n : Nat} {args : List D} {S : Store} : calls (n + 1) 17 args S = tidy S (runBody (d17 (calls n)) 7 args S) := rfl
theorem c18 {n : Nat} {args : List D} {S : Store} : calls (n + 1) 18 args S = tidy S (runBody (d18 (calls n)) 12 args S) := rfl
theorem c19 {n : Nat} {args : List D} {S : Store} : calls (n + 1) 19 args S = tidy S (runBody (d19 (calls n)) 9 args S) := rfl
/-! ### what the written part says -/
structure Ctx (K : PySem.W.Frag) (mg : Str → Option Value) where
  C : ClsOk K (ca K) anc
  fI : Addr
  fdI : FuncData
  ex : ∀ c, c < anc.length → ExcT K (ca K c) fI
  tI : PySem.W.typeIn K (.ref fI) = some (.type "function")
  FI : FunD K "__init__" "WorthError.__init__" (defArgs (clsM (top 2))) (defBody (clsM (top 2))) (defScope (clsM (top 2))) [] [] fI fdI
  fd0 : FuncData
  F0 : FunD K (PySem.Str.ofString "is_number") (PySem.Str.ofString "is_number") (defArgs (top 7)) (defBody (top 7)) (defScope (top 7)) [] [] (He.ga K (PySem.Str.ofString "is_number")) fd0
  g_is_number : mg (PySem.Str.ofString "is_number") = some (.ref (He.ga K (PySem.Str.ofString "is_number")))
  fd1 : FuncData
  F1 : FunD K (PySem.Str.ofString "checked_signs") (PySem.Str.ofString "checked_signs") (defArgs (top 10)) (defBody (top 10)) (defScope (top 10)) [] [] (He.ga K (PySem.Str.ofString "checked_signs")) fd1
  g_checked_signs : mg (PySem.Str.ofString "checked_signs") = some (.ref (He.ga K (PySem.Str.ofString "checked_signs")))
  fd2 : FuncData
  F2 : FunD K (PySem.Str.ofString "messages_of") (PySem.Str.ofString "messages_of") (defArgs (top 11)) (defBody (top 11)) (defScope (top 11)) [] [] (He.ga K (PySem.Str.ofString "messages_of")) fd2
  g_messages_of : mg (PySem.Str.ofString "messages_of") = some (.ref (He.ga K (PySem.Str.ofString "messages_of")))
  fd3 : FuncData
  F3 : FunD K (PySem.Str.ofString "messages_below") (PySem.Str.ofString "messages_below") (defArgs (top 12)) (defBody (top 12)) (defScope (top 12)) [] [] (He.ga K (PySem.Str.ofString "messages_below")) fd3
  g_messages_below : mg (PySem.Str.ofString "messages_below") = some (.ref (He.ga K (PySem.Str.ofString "messages_below")))
  fd4 : FuncData
  F4 : FunD K (PySem.Str.ofString "checked_size") (PySem.Str.ofString "checked_size") (defArgs (top 14)) (defBody (top 14)) (defScope (top 14)) [] [] (He.ga K (PySem.Str.ofString "checked_size")) fd4
  g_checked_size : mg (PySem.Str.ofString "checked_size") = some (.ref (He.ga K (PySem.Str.ofString "checked_size")))
  fd5 : FuncData
  F5 : FunD K (PySem.Str.ofString "checked_answers") (PySem.Str.ofString "checked_answers") (defArgs (top 15)) (defBody (top 15)) (defScope (top 15)) [] [] (He.ga K (PySem.Str.ofString "checked_answers")) fd5
  g_checked_answers : mg (PySem.Str.ofString "checked_answers") = some (.ref (He.ga K (PySem.Str.ofString "checked_answers")))
  fd6 : FuncData
  F6 : FunD K (PySem.Str.ofString "asked") (PySem.Str.ofString "asked") (defArgs (top 16)) (defBody (top 16)) (defScope (top 16)) [] [] (He.ga K (PySem.Str.ofString "asked")) fd6
  g_asked : mg (PySem.Str.ofString "asked") = some (.ref (He.ga K (PySem.Str.ofString "asked")))
  fd7 : FuncData
  F7 : FunD K (PySem.Str.ofString "next_message") (PySem.Str.ofString "next_message") (defArgs (top 17)) (defBody (top 17)) (defScope (top 17)) [] [] (He.ga K (PySem.Str.ofString "next_message")) fd7
  g_next_message : mg (PySem.Str.ofString "next_message") = some (.ref (He.ga K (PySem.Str.ofString "next_message")))
  fd8 : FuncData
  F8 : FunD K (PySem.Str.ofString "_law_well") (PySem.Str.ofString "_law_well") (defArgs (top 19)) (defBody (top 19)) (defScope (top 19)) [] [] (He.ga K (PySem.Str.ofString "_law_well")) fd8
  g__law_well : mg (PySem.Str.ofString "_law_well") = some (.ref (He.ga K (PySem.Str.ofString "_law_well")))
  fd9 : FuncData
  F9 : FunD K (PySem.Str.ofString "_law_draw") (PySem.Str.ofString "_law_draw") (defArgs (top 20)) (defBody (top 20)) (defScope (top 20)) [] [] (He.ga K (PySem.Str.ofString "_law_draw")) fd9
  g__law_draw : mg (PySem.Str.ofString "_law_draw") = some (.ref (He.ga K (PySem.Str.ofString "_law_draw")))
  fd10 : FuncData
  F10 : FunD K (PySem.Str.ofString "_law_letters") (PySem.Str.ofString "_law_letters") (defArgs (top 21)) (defBody (top 21)) (defScope (top 21)) [] [] (He.ga K (PySem.Str.ofString "_law_letters")) fd10
  g__law_letters : mg (PySem.Str.ofString "_law_letters") = some (.ref (He.ga K (PySem.Str.ofString "_law_letters")))
  fd11 : FuncData
  F11 : FunD K (PySem.Str.ofString "_law_messages") (PySem.Str.ofString "_law_messages") (defArgs (top 22)) (defBody (top 22)) (defScope (top 22)) [] [] (He.ga K (PySem.Str.ofString "_law_messages")) fd11
  g__law_messages : mg (PySem.Str.ofString "_law_messages") = some (.ref (He.ga K (PySem.Str.ofString "_law_messages")))
  fd12 : FuncData
  F12 : FunD K (PySem.Str.ofString "_law_order") (PySem.Str.ofString "_law_order") (defArgs (top 23)) (defBody (top 23)) (defScope (top 23)) [] [] (He.ga K (PySem.Str.ofString "_law_order")) fd12
  g__law_order : mg (PySem.Str.ofString "_law_order") = some (.ref (He.ga K (PySem.Str.ofString "_law_order")))
  fd13 : FuncData
  F13 : FunD K (PySem.Str.ofString "_law_some") (PySem.Str.ofString "_law_some") (defArgs (top 24)) (defBody (top 24)) (defScope (top 24)) [] [] (He.ga K (PySem.Str.ofString "_law_some")) fd13
  g__law_some : mg (PySem.Str.ofString "_law_some") = some (.ref (He.ga K (PySem.Str.ofString "_law_some")))
  fd14 : FuncData
  F14 : FunD K (PySem.Str.ofString "_law_longer") (PySem.Str.ofString "_law_longer") (defArgs (top 25)) (defBody (top 25)) (defScope (top 25)) [] [] (He.ga K (PySem.Str.ofString "_law_longer")) fd14
  g__law_longer : mg (PySem.Str.ofString "_law_longer") = some (.ref (He.ga K (PySem.Str.ofString "_law_longer")))
  fd15 : FuncData
  F15 : FunD K (PySem.Str.ofString "_law_number") (PySem.Str.ofString "_law_number") (defArgs (top 26)) (defBody (top 26)) (defScope (top 26)) [] [] (He.ga K (PySem.Str.ofString "_law_number")) fd15
  g__law_number : mg (PySem.Str.ofString "_law_number") = some (.ref (He.ga K (PySem.Str.ofString "_law_number")))
  fd16 : FuncData
  F16 : FunD K (PySem.Str.ofString "_law_listed") (PySem.Str.ofString "_law_listed") (defArgs (top 27)) (defBody (top 27)) (defScope (top 27)) [] [] (He.ga K (PySem.Str.ofString "_law_listed")) fd16
  g__law_listed : mg (PySem.Str.ofString "_law_listed") = some (.ref (He.ga K (PySem.Str.ofString "_law_listed")))
  fd17 : FuncData
  F17 : FunD K (PySem.Str.ofString "_law_next") (PySem.Str.ofString "_law_next") (defArgs (top 28)) (defBody (top 28)) (defScope (top 28)) [] [] (He.ga K (PySem.Str.ofString "_law_next")) fd17
  g__law_next : mg (PySem.Str.ofString "_law_next") = some (.ref (He.ga K (PySem.Str.ofString "_law_next")))
  fd18 : FuncData
  F18 : FunD K (PySem.Str.ofString "_law_nexts") (PySem.Str.ofString "_law_nexts") (defArgs (top 29)) (defBody (top 29)) (defScope (top 29)) [] [] (He.ga K (PySem.Str.ofString "_law_nexts")) fd18
  g__law_nexts : mg (PySem.Str.ofString "_law_nexts") = some (.ref (He.ga K (PySem.Str.ofString "_law_nexts")))
  fd19 : FuncData
  F19 : FunD K (PySem.Str.ofString "law") (PySem.Str.ofString "law") (defArgs (top 30)) (defBody (top 30)) (defScope (top 30)) [] [] (He.ga K (PySem.Str.ofString "law")) fd19
  g_law : mg (PySem.Str.ofString "law") = some (.ref (He.ga K (PySem.Str.ofString "law")))
  g_WorthError : mg (PySem.Str.ofString "WorthError") = some (.ref (ca K 0))
  g_InvalidNumber : mg (PySem.Str.ofString "InvalidNumber") = some (.ref (ca K 1))
  g_InvalidSigns : mg (PySem.Str.ofString "InvalidSigns") = some (.ref (ca K 2))
  g_InvalidNote : mg (PySem.Str.ofString "InvalidNote") = some (.ref (ca K 3))
  i_gcd : mg (PySem.Str.ofString "gcd") = some (.builtin "math.gcd")
  b_ValueError : mg (PySem.Str.ofString "ValueError") = none
  b_abs : mg (PySem.Str.ofString "abs") = none
  b_all : mg (PySem.Str.ofString "all") = none
  b_dict : mg (PySem.Str.ofString "dict") = none
  b_int : mg (PySem.Str.ofString "int") = none
  b_isinstance : mg (PySem.Str.ofString "isinstance") = none
  b_len : mg (PySem.Str.ofString "len") = none
  b_list : mg (PySem.Str.ofString "list") = none
  b_max : mg (PySem.Str.ofString "max") = none
  b_min : mg (PySem.Str.ofString "min") = none
  b_range : mg (PySem.Str.ofString "range") = none
  b_sorted : mg (PySem.Str.ofString "sorted") = none
  b_str : mg (PySem.Str.ofString "str") = none
  vV : PySem.W.findCls K (.type "ValueError") (.type "type") "__init__" = some (.val (.builtin "ValueError.__init__"))
  k_LETTERS : GloD K (ca K) mg (PySem.Str.ofString "LETTERS") (.str (PySem.Str.ofString "abcdefghijklmnopqrstuvwxyz"))
structure AllOk (P : Program) (w : World) (K : PySem.W.Frag) (mg : Str → Option Value) (base : Heap) (x : Ctx K mg) (k : Nat) (Γ : Calls) : Prop where
  f0 : FnOk P w K mg base (L2N.CX P w) k (He.ga K (PySem.Str.ofString "is_number")) x.fd0 P0 (spF K (ca K) Γ 0 1)
  f1 : FnOk P w K mg base (L2N.CX P w) k (He.ga K (PySem.Str.ofString "checked_signs")) x.fd1 P1 (spF K (ca K) Γ 1 1)
  f2 : FnOk P w K mg base (L2N.CX P w) k (He.ga K (PySem.Str.ofString "messages_of")) x.fd2 P2 (spF K (ca K) Γ 2 2)
  f3 : FnOk P w K mg base (L2N.CX P w) k (He.ga K (PySem.Str.ofString "messages_below")) x.fd3 P3 (spF K (ca K) Γ 3 2)
  f4 : FnOk P w K mg base (L2N.CX P w) k (He.ga K (PySem.Str.ofString "checked_size")) x.fd4 P4 (spF K (ca K) Γ 4 1)
  f5 : FnOk P w K mg base (L2N.CX P w) k (He.ga K (PySem.Str.ofString "checked_answers")) x.fd5 P5 (spF K (ca K) Γ 5 2)
  f6 : FnOk P w K mg base (L2N.CX P w) k (He.ga K (PySem.Str.ofString "asked")) x.fd6 P6 (spF K (ca K) Γ 6 2)
  f7 : FnOk P w K mg base (L2N.CX P w) k (He.ga K (PySem.Str.ofString "next_message")) x.fd7 P7 (spF K (ca K) Γ 7 3)
  f8 : FnOk P w K mg base (L2N.CX P w) k (He.ga K (PySem.Str.ofString "_law_well")) x.fd8 P8 (spF K (ca K) Γ 8 2)
  f9 : FnOk P w K mg base (L2N.CX P w) k (He.ga K (PySem.Str.ofString "_law_draw")) x.fd9 P9 (spF K (ca K) Γ 9 2)
  f10 : FnOk P w K mg base (L2N.CX P w) k (He.ga K (PySem.Str.ofString "_law_letters")) x.fd10 P10 (spF K (ca K) Γ 10 2)
  f11 : FnOk P w K mg base (L2N.CX P w) k (He.ga K (PySem.Str.ofString "_law_messages")) x.fd11 P11 (spF K (ca K) Γ 11 2)
  f12 : FnOk P w K mg base (L2N.CX P w) k (He.ga K (PySem.Str.ofString "_law_order")) x.fd12 P12 (spF K (ca K) Γ 12 2)
  f13 : FnOk P w K mg base (L2N.CX P w) k (He.ga K (PySem.Str.ofString "_law_some")) x.fd13 P13 (spF K (ca K) Γ 13 2)
  f14 : FnOk P w K mg base (L2N.CX P w) k (He.ga K (PySem.Str.ofString "_law_longer")) x.fd14 P14 (spF K (ca K) Γ 14 3)
  f15 : FnOk P w K mg base (L2N.CX P w) k (He.ga K (PySem.Str.ofString "_law_number")) x.fd15 P15 (spF K (ca K) Γ 15 1)
  f16 : FnOk P w K mg base (L2N.CX P w) k (He.ga K (PySem.Str.ofString "_law_listed")) x.fd16 P16 (spF K (ca K) Γ 16 4)
  f17 : FnOk P w K mg base (L2N.CX P w) k (He.ga K (PySem.Str.ofString "_law_next")) x.fd17 P17 (spF K (ca K) Γ 17 4)
  f18 : FnOk P w K mg base (L2N.CX P w) k (He.ga K (PySem.Str.ofString "_law_nexts")) x.fd18 P18 (spF K (ca K) Γ 18 5)
  f19 : FnOk P w K mg base (L2N.CX P w) k (He.ga K (PySem.Str.ofString "law")) x.fd19 P19 (spF K (ca K) Γ 19 1)
section
variable {P : Program} {w : World} {K : PySem.W.Frag} {mg : Str → Option Value} {base : Heap}
theorem hN0 : N0.Nodup := by decide +kernel
theorem sc0 : FnScope N0 P0 (defScope (top 7)) := ⟨rfl, rfl, rfl, hN0, rfl, by decide +kernel, by decide +kernel⟩
theorem bN0 (x : Ctx K mg) : Binds K x.fd0 P0 [] := x.F0.bindsN fun _ _ _ _ _ _ us hl => match us, hl with | [_], _ => rfl
theorem hN1 : N1.Nodup := by decide +kernel
theorem sc1 : FnScope N1 P1 (defScope (top 10)) := ⟨rfl, rfl, rfl, hN1, rfl, by decide +kernel, by decide +kernel⟩
theorem bN1 (x : Ctx K mg) : Binds K x.fd1 P1 [] := x.F1.bindsN fun _ _ _ _ _ _ us hl => match us, hl with | [_], _ => rfl
theorem hN2 : N2.Nodup := by decide +kernel
theorem sc2 : FnScope N2 P2 (defScope (top 11)) := ⟨rfl, rfl, rfl, hN2, rfl, by decide +kernel, by decide +kernel⟩
theorem bN2 (x : Ctx K mg) : Binds K x.fd2 P2 [] := x.F2.bindsN fun _ _ _ _ _ _ us hl => match us, hl with | [_, _], _ => rfl
theorem hN3 : N3.Nodup := by decide +kernel
theorem sc3 : FnScope N3 P3 (defScope (top 12)) := ⟨rfl, rfl, rfl, hN3, rfl, by decide +kernel, by decide +kernel⟩
theorem bN3 (x : Ctx K mg) : Binds K x.fd3 P3 [] := x.F3.bindsN fun _ _ _ _ _ _ us hl => match us, hl with | [_, _], _ => rfl
theorem hN4 : N4.Nodup := by decide +kernel
theorem sc4 : FnScope N4 P4 (defScope (top 14)) := ⟨rfl, rfl, rfl, hN4, rfl, by decide +kernel, by decide +kernel⟩
theorem bN4 (x : Ctx K mg) : Binds K x.fd4 P4 [] := x.F4.bindsN fun _ _ _ _ _ _ us hl => match us, hl with | [_], _ => rfl
theorem hN5 : N5.Nodup := by decide +kernel
theorem sc5 : FnScope N5 P5 (defScope (top 15)) := ⟨rfl, rfl, rfl, hN5, rfl, by decide +kernel, by decide +kernel⟩
theorem bN5 (x : Ctx K mg) : Binds K x.fd5 P5 [] := x.F5.bindsN fun _ _ _ _ _ _ us hl => match us, hl with | [_, _], _ => rfl
theorem hN6 : N6.Nodup := by decide +kernel
theorem sc6 : FnScope N6 P6 (defScope (top 16)) := ⟨rfl, rfl, rfl, hN6, rfl, by decide +kernel, by decide +kernel⟩
theorem bN6 (x : Ctx K mg) : Binds K x.fd6 P6 [] := x.F6.bindsN fun _ _ _ _ _ _ us hl => match us, hl with | [_, _], _ => rfl
theorem hN7 : N7.Nodup := by decide +kernel
theorem sc7 : FnScope N7 P7 (defScope (top 17)) := ⟨rfl, rfl, rfl, hN7, rfl, by decide +kernel, by decide +kernel⟩
theorem bN7 (x : Ctx K mg) : Binds K x.fd7 P7 [] := x.F7.bindsN fun _ _ _ _ _ _ us hl => match us, hl with | [_, _, _], _ => rfl
theorem hN8 : N8.Nodup := by decide +kernel
theorem sc8 : FnScope N8 P8 (defScope (top 19)) := ⟨rfl, rfl, rfl, hN8, rfl, by decide +kernel, by decide +kernel⟩
theorem bN8 (x : Ctx K mg) : Binds K x.fd8 P8 [] := x.F8.bindsN fun _ _ _ _ _ _ us hl => match us, hl with | [_, _], _ => rfl
theorem hN9 : N9.Nodup := by decide +kernel
theorem sc9 : FnScope N9 P9 (defScope (top 20)) := ⟨rfl, rfl, rfl, hN9, rfl, by decide +kernel, by decide +kernel⟩
theorem bN9 (x : Ctx K mg) : Binds K x.fd9 P9 [] := x.F9.bindsN fun _ _ _ _ _ _ us hl => match us, hl with | [_, _], _ => rfl
theorem hN10 : N10.Nodup := by decide +kernel
theorem sc10 : FnScope N10 P10 (defScope (top 21)) := ⟨rfl, rfl, rfl, hN10, rfl, by decide +kernel, by decide +kernel⟩
theorem bN10 (x : Ctx K mg) : Binds K x.fd10 P10 [] := x.F10.bindsN fun _ _ _ _ _ _ us hl => match us, hl with | [_, _], _ => rfl
theorem hN11 : N11.Nodup := by decide +kernel
theorem sc11 : FnScope N11 P11 (defScope (top 22)) := ⟨rfl, rfl, rfl, hN11, rfl, by decide +kernel, by decide +kernel⟩
theorem bN11 (x : Ctx K mg) : Binds K x.fd11 P11 [] := x.F11.bindsN fun _ _ _ _ _ _ us hl => match us, hl with | [_, _], _ => rfl
theorem hN12 : N12.Nodup := by decide +kernel
theorem sc12 : FnScope N12 P12 (defScope (top 23)) := ⟨rfl, rfl, rfl, hN12, rfl, by decide +kernel, by decide +kernel⟩
theorem bN12 (x : Ctx K mg) : Binds K x.fd12 P12 [] := x.F12.bindsN fun _ _ _ _ _ _ us hl => match us, hl with | [_, _], _ => rfl
theorem hN13 : N13.Nodup := by decide +kernel
theorem sc13 : FnScope N13 P13 (defScope (top 24)) := ⟨rfl, rfl, rfl, hN13, rfl, by decide +kernel, by decide +kernel⟩
theorem bN13 (x : Ctx K mg) : Binds K x.fd13 P13 [] := x.F13.bindsN fun _ _ _ _ _ _ us hl => match us, hl with | [_, _], _ => rfl
theorem hN14 : N14.Nodup := by decide +kernel
theorem sc14 : FnScope N14 P14 (defScope (top 25)) := ⟨rfl, rfl, rfl, hN14, rfl, by decide +kernel, by decide +kernel⟩
theorem bN14 (x : Ctx K mg) : Binds K x.fd14 P14 [] := x.F14.bindsN fun _ _ _ _ _ _ us hl => match us, hl with | [_, _, _], _ => rfl
theorem hN15 : N15.Nodup := by decide +kernel
theorem sc15 : FnScope N15 P15 (defScope (top 26)) := ⟨rfl, rfl, rfl, hN15, rfl, by decide +kernel, by decide +kernel⟩
theorem bN15 (x : Ctx K mg) : Binds K x.fd15 P15 [] := x.F15.bindsN fun _ _ _ _ _ _ us hl => match us, hl with | [_], _ => rfl
theorem hN16 : N16.Nodup := by decide +kernel
theorem sc16 : FnScope N16 P16 (defScope (top 27)) := ⟨rfl, rfl, rfl, hN16, rfl, by decide +kernel, by decide +kernel⟩
theorem bN16 (x : Ctx K mg) : Binds K x.fd16 P16 [] := x.F16.bindsN fun _ _ _ _ _ _ us hl => match us, hl with | [_, _, _, _], _ => rfl
theorem hN17 : N17.Nodup := by decide +kernel
theorem sc17 : FnScope N17 P17 (defScope (top 28)) := ⟨rfl, rfl, rfl, hN17, rfl, by decide +kernel, by decide +kernel⟩
theorem bN17 (x : Ctx K mg) : Binds K x.fd17 P17 [] := x.F17.bindsN fun _ _ _ _ _ _ us hl => match us, hl with | [_, _, _, _], _ => rfl
theorem hN18 : N18.Nodup := by decide +kernel
theorem sc18 : FnScope N18 P18 (defScope (top 29)) := ⟨rfl, rfl, rfl, hN18, rfl, by decide +kernel, by decide +kernel⟩
theorem bN18 (x : Ctx K mg) : Binds K x.fd18 P18 [] := x.F18.bindsN fun _ _ _ _ _ _ us hl => match us, hl with | [_, _, _, _, _], _ => rfl
theorem hN19 : N19.Nodup := by decide +kernel
theorem sc19 : FnScope N19 P19 (defScope (top 30)) := ⟨rfl, rfl, rfl, hN19, rfl, by decide +kernel, by decide +kernel⟩
theorem bN19 (x : Ctx K mg) : Binds K x.fd19 P19 [] := x.F19.bindsN fun _ _ _ _ _ _ us hl => match us, hl with | [_], _ => rfl
theorem scI : FnScope [(PySem.Str.ofString "self"), (PySem.Str.ofString "value")] [(PySem.Str.ofString "self"), (PySem.Str.ofString "value")] (defScope (clsM (top 2))) := ⟨rfl, rfl, rfl, by decide +kernel, rfl, by decide +kernel, by decide +kernel⟩
theorem bI (x : Ctx K mg) : Binds K x.fdI [(PySem.Str.ofString "self"), (PySem.Str.ofString "value")] [] := x.FI.bindsN fun _ _ _ _ _ _ us hl => match us, hl with | [_, _], _ => rfl
theorem bIK (x : Ctx K mg) : BindsP K x.fdI [(PySem.Str.ofString "self"), (PySem.Str.ofString "value")] [(PySem.Str.ofString "value")] 1 [0, 1] := bindsP x.FI fun _ _ _ _ _ _ us ws hl hk => match us, ws, hl, hk with | [_], [_], _, _ => rfl
theorem init (x : Ctx K mg) : FnOk P w K mg base (L2N.CX P w) 1 x.fI x.fdI [(PySem.Str.ofString "self"), (PySem.Str.ofString "value")] (spInit K) := init_ok x.FI scI rfl rfl (fun _ h => by unfold PySem.Env.kindOf; rw [h]; rfl) (fun _ => ⟨_, rfl⟩) x.b_ValueError x.vV
/-- is_number -/
theorem b0 {Γ : Calls} {k : Nat} (x : Ctx K mg) (hk : 2 ≤ k) (IH : AllOk P w K mg base x k Γ) (cdv : Value) (A : Around) (outer : List PySem.Env) (s : Shared) (H : Hp) (E : XK) (hr : Room k (A.deeper (envOfC (PySem.Str.ofString "is_number") (defScope (top 7)) s.heap.objs.size (He.ga K (PySem.Str.ofString "is_number")) cdv))) :
    PSs (cxOf (L2N.CX P w) P w K mg base N0 (PySem.Str.ofString "is_number") (defScope (top 7)) (He.ga K (PySem.Str.ofString "is_number")) cdv A outer s H E) (defBody (top 7)) (tS K (ca K) (fun cls d _ H => E cls d H) (d0 Γ)) := by
  have tk : L2N.Takes (cxOf (L2N.CX P w) P w K mg base N0 (PySem.Str.ofString "is_number") (defScope (top 7)) (He.ga K (PySem.Str.ofString "is_number")) cdv A outer s H E) (fun cls d _ H => E cls d H) := L2N.takes_of rfl rfl rfl rfl
  have po : PassesOwn (model P w) (A.deeper (envOfC (PySem.Str.ofString "is_number") (defScope (top 7)) s.heap.objs.size (He.ga K (PySem.Str.ofString "is_number")) cdv)) _ (cxOf (L2N.CX P w) P w K mg base N0 (PySem.Str.ofString "is_number") (defScope (top 7)) (He.ga K (PySem.Str.ofString "is_number")) cdv A outer s H E).xe := passes_of (X := cxOf (L2N.CX P w) P w K mg base N0 (PySem.Str.ofString "is_number") (defScope (top 7)) (He.ga K (PySem.Str.ofString "is_number")) cdv A outer s H E) rfl
  have hu := hr.units
  have hu1 : (A.deeper (envOfC (PySem.Str.ofString "is_number") (defScope (top 7)) s.heap.objs.size (He.ga K (PySem.Str.ofString "is_number")) cdv)).units + 65 < cLine := by have := hr.un; omega
  unfold d0
  exact (s_cons (s_asg (e_var rfl (Or.inl rfl)) (g_tup rfl (gs_cons (g_name hN0 rfl (Or.inl rfl)) (gs_cons (g_name hN0 rfl (Or.inl rfl)) gs_nil))))
    (s_one (s_ret (e_and (e_cmp r_ge m_ge (e_var rfl (Or.inl rfl)) e_int rfl) (e_one (e_cmp (r_eq hu) m_eq (e_fnM c_gcd n_gcd rfl x.i_gcd (d_cons (e_var rfl (Or.inl rfl)) (d_cons (e_var rfl (Or.inl rfl)) d_nil))) e_int rfl))))))
/-- checked_signs -/
theorem b1 {Γ : Calls} {k : Nat} (x : Ctx K mg) (hk : 2 ≤ k) (IH : AllOk P w K mg base x k Γ) (cdv : Value) (A : Around) (outer : List PySem.Env) (s : Shared) (H : Hp) (E : XK) (hr : Room k (A.deeper (envOfC (PySem.Str.ofString "checked_signs") (defScope (top 10)) s.heap.objs.size (He.ga K (PySem.Str.ofString "checked_signs")) cdv))) :
    PSs (cxOf (L2N.CX P w) P w K mg base N1 (PySem.Str.ofString "checked_signs") (defScope (top 10)) (He.ga K (PySem.Str.ofString "checked_signs")) cdv A outer s H E) (defBody (top 10)) (tS K (ca K) (fun cls d _ H => E cls d H) (d1 Γ)) := by
  have tk : L2N.Takes (cxOf (L2N.CX P w) P w K mg base N1 (PySem.Str.ofString "checked_signs") (defScope (top 10)) (He.ga K (PySem.Str.ofString "checked_signs")) cdv A outer s H E) (fun cls d _ H => E cls d H) := L2N.takes_of rfl rfl rfl rfl
  have po : PassesOwn (model P w) (A.deeper (envOfC (PySem.Str.ofString "checked_signs") (defScope (top 10)) s.heap.objs.size (He.ga K (PySem.Str.ofString "checked_signs")) cdv)) _ (cxOf (L2N.CX P w) P w K mg base N1 (PySem.Str.ofString "checked_signs") (defScope (top 10)) (He.ga K (PySem.Str.ofString "checked_signs")) cdv A outer s H E).xe := passes_of (X := cxOf (L2N.CX P w) P w K mg base N1 (PySem.Str.ofString "checked_signs") (defScope (top 10)) (He.ga K (PySem.Str.ofString "checked_signs")) cdv A outer s H E) rfl
  have hu := hr.units
  have hu1 : (A.deeper (envOfC (PySem.Str.ofString "checked_signs") (defScope (top 10)) s.heap.objs.size (He.ga K (PySem.Str.ofString "checked_signs")) cdv)).units + 65 < cLine := by have := hr.un; omega
  unfold d1
  exact (s_cons (s_set (i := 1) hN1 rfl (Or.inl rfl) e_str)
    (s_cons (s_for po rfl (i_seqS (e_var rfl (Or.inl rfl))) (g_name hN1 rfl (Or.inl rfl))
    (s_cons (s_if (PW.pt (w_or (t_cmp (r_ninS hu1) m_inS (e_var rfl (Or.inl rfl)) (e_gl x.k_LETTERS rfl) rfl) (w_or1 (t_cmp r_leS m_leS (e_var rfl (Or.inl rfl)) (e_var rfl (Or.inl rfl)) rfl))))
    (s_one (s_raise (c := 2) rfl tk (x.ex 2 (by decide)) x.tI (init x) (hr.mono hk) (bI x) rfl x.g_InvalidSigns (e_var rfl (Or.inl rfl))))
    s_nil)
    (s_one (s_set (i := 1) hN1 rfl (Or.inl rfl) (e_var rfl (Or.inl rfl))))))
    (s_one (s_if (t_cmp (r_eq hu) m_eq (e_var rfl (Or.inl rfl)) e_str rfl)
    (s_one (s_raise (c := 2) rfl tk (x.ex 2 (by decide)) x.tI (init x) (hr.mono hk) (bI x) rfl x.g_InvalidSigns (e_var rfl (Or.inl rfl))))
    s_nil))))
/-- messages_of -/
theorem b2 {Γ : Calls} {k : Nat} (x : Ctx K mg) (hk : 2 ≤ k) (IH : AllOk P w K mg base x k Γ) (cdv : Value) (A : Around) (outer : List PySem.Env) (s : Shared) (H : Hp) (E : XK) (hr : Room k (A.deeper (envOfC (PySem.Str.ofString "messages_of") (defScope (top 11)) s.heap.objs.size (He.ga K (PySem.Str.ofString "messages_of")) cdv))) :
    PSs (cxOf (L2N.CX P w) P w K mg base N2 (PySem.Str.ofString "messages_of") (defScope (top 11)) (He.ga K (PySem.Str.ofString "messages_of")) cdv A outer s H E) (defBody (top 11)) (tS K (ca K) (fun cls d _ H => E cls d H) (d2 Γ)) := by
  have tk : L2N.Takes (cxOf (L2N.CX P w) P w K mg base N2 (PySem.Str.ofString "messages_of") (defScope (top 11)) (He.ga K (PySem.Str.ofString "messages_of")) cdv A outer s H E) (fun cls d _ H => E cls d H) := L2N.takes_of rfl rfl rfl rfl
  have po : PassesOwn (model P w) (A.deeper (envOfC (PySem.Str.ofString "messages_of") (defScope (top 11)) s.heap.objs.size (He.ga K (PySem.Str.ofString "messages_of")) cdv)) _ (cxOf (L2N.CX P w) P w K mg base N2 (PySem.Str.ofString "messages_of") (defScope (top 11)) (He.ga K (PySem.Str.ofString "messages_of")) cdv A outer s H E).xe := passes_of (X := cxOf (L2N.CX P w) P w K mg base N2 (PySem.Str.ofString "messages_of") (defScope (top 11)) (He.ga K (PySem.Str.ofString "messages_of")) cdv A outer s H E) rfl
  have hu := hr.units
  have hu1 : (A.deeper (envOfC (PySem.Str.ofString "messages_of") (defScope (top 11)) s.heap.objs.size (He.ga K (PySem.Str.ofString "messages_of")) cdv)).units + 65 < cLine := by have := hr.un; omega
  unfold d2
  exact (s_cons (s_set (i := 2) hN2 rfl (Or.inl rfl) (f_val (f_lst (d_cons e_str d_nil) (len_cons len_nil))))
    (s_cons (s_for po rfl (i_rng1 rfl x.b_range (e_var rfl (Or.inl rfl))) (g_name hN2 rfl (Or.inl rfl))
    (s_one (s_lc2 (k := 2) (own := [(PySem.Str.ofString "message", 4), (PySem.Str.ofString "sign", 5)]) rfl hN2 rfl rfl rfl rfl (by decide) (i_seq (e_var rfl (Or.inl rfl))) (blkOk_by (by kernel_rfl)) (fun _ _ _ _ _ => (gv_name (by decide) hN2 rfl (Or.inl rfl))) (fun _ _ _ _ _ => (i_seqS (e_var rfl (Or.inr (Or.inl rfl))))) (fun _ _ _ _ _ => (gv_name (by decide) hN2 rfl (Or.inl rfl))) (fun _ _ _ _ _ => (e_bin r_cat m_cat (e_var rfl (Or.inl rfl)) (e_var rfl (Or.inl rfl)))))))
    (s_one (s_ret (e_var rfl (Or.inl rfl))))))
/-- messages_below -/
theorem b3 {Γ : Calls} {k : Nat} (x : Ctx K mg) (hk : 2 ≤ k) (IH : AllOk P w K mg base x k Γ) (cdv : Value) (A : Around) (outer : List PySem.Env) (s : Shared) (H : Hp) (E : XK) (hr : Room k (A.deeper (envOfC (PySem.Str.ofString "messages_below") (defScope (top 12)) s.heap.objs.size (He.ga K (PySem.Str.ofString "messages_below")) cdv))) :
    PSs (cxOf (L2N.CX P w) P w K mg base N3 (PySem.Str.ofString "messages_below") (defScope (top 12)) (He.ga K (PySem.Str.ofString "messages_below")) cdv A outer s H E) (defBody (top 12)) (tS K (ca K) (fun cls d _ H => E cls d H) (d3 Γ)) := by
  have tk : L2N.Takes (cxOf (L2N.CX P w) P w K mg base N3 (PySem.Str.ofString "messages_below") (defScope (top 12)) (He.ga K (PySem.Str.ofString "messages_below")) cdv A outer s H E) (fun cls d _ H => E cls d H) := L2N.takes_of rfl rfl rfl rfl
  have po : PassesOwn (model P w) (A.deeper (envOfC (PySem.Str.ofString "messages_below") (defScope (top 12)) s.heap.objs.size (He.ga K (PySem.Str.ofString "messages_below")) cdv)) _ (cxOf (L2N.CX P w) P w K mg base N3 (PySem.Str.ofString "messages_below") (defScope (top 12)) (He.ga K (PySem.Str.ofString "messages_below")) cdv A outer s H E).xe := passes_of (X := cxOf (L2N.CX P w) P w K mg base N3 (PySem.Str.ofString "messages_below") (defScope (top 12)) (He.ga K (PySem.Str.ofString "messages_below")) cdv A outer s H E) rfl
  have hu := hr.units
  have hu1 : (A.deeper (envOfC (PySem.Str.ofString "messages_below") (defScope (top 12)) s.heap.objs.size (He.ga K (PySem.Str.ofString "messages_below")) cdv)).units + 65 < cLine := by have := hr.un; omega
  unfold d3
  exact (s_cons (s_set (i := 2) hN3 rfl (Or.inl rfl) (f_new (f_lst d_nil len_nil)))
    (s_cons (s_for po rfl (i_rng1 rfl x.b_range (e_var rfl (Or.inl rfl))) (g_name hN3 rfl (Or.inl rfl))
    (s_one (s_expr (e_ext (e_var rfl (Or.inl rfl)) (e_call (IH.f2) hr rfl x.g_messages_of x.F2.kp (bN2 x) tk (d_cons (e_var rfl (Or.inl rfl)) (d_cons (e_var rfl (Or.inl rfl)) d_nil)) (len_cons (len_cons len_nil)))))))
    (s_one (s_ret (e_var rfl (Or.inl rfl))))))
/-- checked_size -/
theorem b4 {Γ : Calls} {k : Nat} (x : Ctx K mg) (hk : 2 ≤ k) (IH : AllOk P w K mg base x k Γ) (cdv : Value) (A : Around) (outer : List PySem.Env) (s : Shared) (H : Hp) (E : XK) (hr : Room k (A.deeper (envOfC (PySem.Str.ofString "checked_size") (defScope (top 14)) s.heap.objs.size (He.ga K (PySem.Str.ofString "checked_size")) cdv))) :
    PSs (cxOf (L2N.CX P w) P w K mg base N4 (PySem.Str.ofString "checked_size") (defScope (top 14)) (He.ga K (PySem.Str.ofString "checked_size")) cdv A outer s H E) (defBody (top 14)) (tS K (ca K) (fun cls d _ H => E cls d H) (d4 Γ)) := by
  have tk : L2N.Takes (cxOf (L2N.CX P w) P w K mg base N4 (PySem.Str.ofString "checked_size") (defScope (top 14)) (He.ga K (PySem.Str.ofString "checked_size")) cdv A outer s H E) (fun cls d _ H => E cls d H) := L2N.takes_of rfl rfl rfl rfl
  have po : PassesOwn (model P w) (A.deeper (envOfC (PySem.Str.ofString "checked_size") (defScope (top 14)) s.heap.objs.size (He.ga K (PySem.Str.ofString "checked_size")) cdv)) _ (cxOf (L2N.CX P w) P w K mg base N4 (PySem.Str.ofString "checked_size") (defScope (top 14)) (He.ga K (PySem.Str.ofString "checked_size")) cdv A outer s H E).xe := passes_of (X := cxOf (L2N.CX P w) P w K mg base N4 (PySem.Str.ofString "checked_size") (defScope (top 14)) (He.ga K (PySem.Str.ofString "checked_size")) cdv A outer s H E) rfl
  have hu := hr.units
  have hu1 : (A.deeper (envOfC (PySem.Str.ofString "checked_size") (defScope (top 14)) s.heap.objs.size (He.ga K (PySem.Str.ofString "checked_size")) cdv)).units + 65 < cLine := by have := hr.un; omega
  unfold d4
  exact (s_one (s_if (t_cmp r_lt m_lt (e_var rfl (Or.inl rfl)) e_int rfl)
    (s_one (s_raise (c := 1) rfl tk (x.ex 1 (by decide)) x.tI (init x) (hr.mono hk) (bI x) rfl x.g_InvalidNumber (e_var rfl (Or.inl rfl))))
    s_nil))
/-- checked_answers -/
theorem b5 {Γ : Calls} {k : Nat} (x : Ctx K mg) (hk : 2 ≤ k) (IH : AllOk P w K mg base x k Γ) (cdv : Value) (A : Around) (outer : List PySem.Env) (s : Shared) (H : Hp) (E : XK) (hr : Room k (A.deeper (envOfC (PySem.Str.ofString "checked_answers") (defScope (top 15)) s.heap.objs.size (He.ga K (PySem.Str.ofString "checked_answers")) cdv))) :
    PSs (cxOf (L2N.CX P w) P w K mg base N5 (PySem.Str.ofString "checked_answers") (defScope (top 15)) (He.ga K (PySem.Str.ofString "checked_answers")) cdv A outer s H E) (defBody (top 15)) (tS K (ca K) (fun cls d _ H => E cls d H) (d5 Γ)) := by
  have tk : L2N.Takes (cxOf (L2N.CX P w) P w K mg base N5 (PySem.Str.ofString "checked_answers") (defScope (top 15)) (He.ga K (PySem.Str.ofString "checked_answers")) cdv A outer s H E) (fun cls d _ H => E cls d H) := L2N.takes_of rfl rfl rfl rfl
  have po : PassesOwn (model P w) (A.deeper (envOfC (PySem.Str.ofString "checked_answers") (defScope (top 15)) s.heap.objs.size (He.ga K (PySem.Str.ofString "checked_answers")) cdv)) _ (cxOf (L2N.CX P w) P w K mg base N5 (PySem.Str.ofString "checked_answers") (defScope (top 15)) (He.ga K (PySem.Str.ofString "checked_answers")) cdv A outer s H E).xe := passes_of (X := cxOf (L2N.CX P w) P w K mg base N5 (PySem.Str.ofString "checked_answers") (defScope (top 15)) (He.ga K (PySem.Str.ofString "checked_answers")) cdv A outer s H E) rfl
  have hu := hr.units
  have hu1 : (A.deeper (envOfC (PySem.Str.ofString "checked_answers") (defScope (top 15)) s.heap.objs.size (He.ga K (PySem.Str.ofString "checked_answers")) cdv)).units + 65 < cLine := by have := hr.un; omega
  unfold d5
  exact (s_cons (s_set (i := 2) hN5 rfl (Or.inl rfl) e_dnew)
    (s_cons (s_for po rfl (i_seq (e_var rfl (Or.inl rfl))) (g_name hN5 rfl (Or.inl rfl))
    (s_cons (s_asg (e_var rfl (Or.inl rfl)) (g_tup rfl (gs_cons (g_name hN5 rfl (Or.inl rfl)) (gs_cons (g_name hN5 rfl (Or.inl rfl)) gs_nil))))
    (s_cons (s_set (i := 6) hN5 rfl (Or.inl rfl) (e_fnB (c_all rfl) n_all rfl x.b_all (by decide +kernel) (d_cons (e_lc (own := [(PySem.Str.ofString "sign", 7)]) rfl hN5 rfl (i_seqS (e_var rfl (Or.inl rfl))) (blkOk_by (by kernel_rfl)) (fun _ _ _ _ _ => (gv_name (by decide) hN5 rfl (Or.inl rfl))) (fun _ _ _ _ _ => pts0) (fun _ _ _ _ _ => (e_cmp (r_inS hu1) m_inS (e_var rfl (Or.inl rfl)) (e_var rfl (Or.inr (Or.inl rfl))) rfl))) d_nil)))
    (s_cons (s_if (PW.pt (w_or (t_not (t_val (e_var rfl (Or.inl rfl)))) (w_or (t_inD (Nat.lt_of_le_of_lt (Nat.add_le_add_left (by decide) _) hu1) (e_var rfl (Or.inl rfl)) (e_var rfl (Or.inl rfl))) (w_or1 (t_not (t_val (e_call (IH.f0) hr rfl x.g_is_number x.F0.kp (bN0 x) tk (d_cons (e_var rfl (Or.inl rfl)) d_nil) (len_cons len_nil))))))))
    (s_one (s_raise (c := 3) rfl tk (x.ex 3 (by decide)) x.tI (init x) (hr.mono hk) (bI x) rfl x.g_InvalidNote (e_var rfl (Or.inl rfl))))
    s_nil)
    (s_one (s_setD (Nat.lt_of_le_of_lt (Nat.add_le_add_left (by decide) _) hu1) (e_var rfl (Or.inl rfl)) (e_var rfl (Or.inl rfl)) (e_var rfl (Or.inl rfl))))))))
    (s_one (s_ret (e_var rfl (Or.inl rfl))))))
/-- asked -/
theorem b6 {Γ : Calls} {k : Nat} (x : Ctx K mg) (hk : 2 ≤ k) (IH : AllOk P w K mg base x k Γ) (cdv : Value) (A : Around) (outer : List PySem.Env) (s : Shared) (H : Hp) (E : XK) (hr : Room k (A.deeper (envOfC (PySem.Str.ofString "asked") (defScope (top 16)) s.heap.objs.size (He.ga K (PySem.Str.ofString "asked")) cdv))) :
    PSs (cxOf (L2N.CX P w) P w K mg base N6 (PySem.Str.ofString "asked") (defScope (top 16)) (He.ga K (PySem.Str.ofString "asked")) cdv A outer s H E) (defBody (top 16)) (tS K (ca K) (fun cls d _ H => E cls d H) (d6 Γ)) := by
  have tk : L2N.Takes (cxOf (L2N.CX P w) P w K mg base N6 (PySem.Str.ofString "asked") (defScope (top 16)) (He.ga K (PySem.Str.ofString "asked")) cdv A outer s H E) (fun cls d _ H => E cls d H) := L2N.takes_of rfl rfl rfl rfl
  have po : PassesOwn (model P w) (A.deeper (envOfC (PySem.Str.ofString "asked") (defScope (top 16)) s.heap.objs.size (He.ga K (PySem.Str.ofString "asked")) cdv)) _ (cxOf (L2N.CX P w) P w K mg base N6 (PySem.Str.ofString "asked") (defScope (top 16)) (He.ga K (PySem.Str.ofString "asked")) cdv A outer s H E).xe := passes_of (X := cxOf (L2N.CX P w) P w K mg base N6 (PySem.Str.ofString "asked") (defScope (top 16)) (He.ga K (PySem.Str.ofString "asked")) cdv A outer s H E) rfl
  have hu := hr.units
  have hu1 : (A.deeper (envOfC (PySem.Str.ofString "asked") (defScope (top 16)) s.heap.objs.size (He.ga K (PySem.Str.ofString "asked")) cdv)).units + 65 < cLine := by have := hr.un; omega
  unfold d6
  exact (s_cons (s_expr (e_call (IH.f1) hr rfl x.g_checked_signs x.F1.kp (bN1 x) tk (d_cons (e_var rfl (Or.inl rfl)) d_nil) (len_cons len_nil)))
    (s_cons (s_expr (e_call (IH.f4) hr rfl x.g_checked_size x.F4.kp (bN4 x) tk (d_cons (e_var rfl (Or.inl rfl)) d_nil) (len_cons len_nil)))
    (s_one (s_ret (e_call (IH.f3) hr rfl x.g_messages_below x.F3.kp (bN3 x) tk (d_cons (e_var rfl (Or.inl rfl)) (d_cons (e_bin r_rep m_rep e_int (e_var rfl (Or.inl rfl))) d_nil)) (len_cons (len_cons len_nil)))))))
/-- next_message -/
theorem b7 {Γ : Calls} {k : Nat} (x : Ctx K mg) (hk : 2 ≤ k) (IH : AllOk P w K mg base x k Γ) (cdv : Value) (A : Around) (outer : List PySem.Env) (s : Shared) (H : Hp) (E : XK) (hr : Room k (A.deeper (envOfC (PySem.Str.ofString "next_message") (defScope (top 17)) s.heap.objs.size (He.ga K (PySem.Str.ofString "next_message")) cdv))) :
    PSs (cxOf (L2N.CX P w) P w K mg base N7 (PySem.Str.ofString "next_message") (defScope (top 17)) (He.ga K (PySem.Str.ofString "next_message")) cdv A outer s H E) (defBody (top 17)) (tS K (ca K) (fun cls d _ H => E cls d H) (d7 Γ)) := by
  have tk : L2N.Takes (cxOf (L2N.CX P w) P w K mg base N7 (PySem.Str.ofString "next_message") (defScope (top 17)) (He.ga K (PySem.Str.ofString "next_message")) cdv A outer s H E) (fun cls d _ H => E cls d H) := L2N.takes_of rfl rfl rfl rfl
  have po : PassesOwn (model P w) (A.deeper (envOfC (PySem.Str.ofString "next_message") (defScope (top 17)) s.heap.objs.size (He.ga K (PySem.Str.ofString "next_message")) cdv)) _ (cxOf (L2N.CX P w) P w K mg base N7 (PySem.Str.ofString "next_message") (defScope (top 17)) (He.ga K (PySem.Str.ofString "next_message")) cdv A outer s H E).xe := passes_of (X := cxOf (L2N.CX P w) P w K mg base N7 (PySem.Str.ofString "next_message") (defScope (top 17)) (He.ga K (PySem.Str.ofString "next_message")) cdv A outer s H E) rfl
  have hu := hr.units
  have hu1 : (A.deeper (envOfC (PySem.Str.ofString "next_message") (defScope (top 17)) s.heap.objs.size (He.ga K (PySem.Str.ofString "next_message")) cdv)).units + 65 < cLine := by have := hr.un; omega
  unfold d7
  exact (s_cons (s_set (i := 3) hN7 rfl (Or.inl rfl) (e_call (IH.f6) hr rfl x.g_asked x.F6.kp (bN6 x) tk (d_cons (e_var rfl (Or.inl rfl)) (d_cons (e_var rfl (Or.inl rfl)) d_nil)) (len_cons (len_cons len_nil))))
    (s_cons (s_set (i := 4) hN7 rfl (Or.inl rfl) (e_call (IH.f5) hr rfl x.g_checked_answers x.F5.kp (bN5 x) tk (d_cons (e_var rfl (Or.inl rfl)) (d_cons (e_var rfl (Or.inl rfl)) d_nil)) (len_cons (len_cons len_nil))))
    (s_cons (s_for po rfl (i_seq (e_var rfl (Or.inl rfl))) (g_name hN7 rfl (Or.inl rfl))
    (s_one (s_if (t_ninD (Nat.lt_of_le_of_lt (Nat.add_le_add_left (by decide) _) hu1) (e_var rfl (Or.inl rfl)) (e_var rfl (Or.inl rfl)))
    (s_one (s_ret (e_var rfl (Or.inl rfl))))
    s_nil)))
    (s_one (s_ret e_non)))))
/-- _law_well -/
theorem b8 {Γ : Calls} {k : Nat} (x : Ctx K mg) (hk : 2 ≤ k) (IH : AllOk P w K mg base x k Γ) (cdv : Value) (A : Around) (outer : List PySem.Env) (s : Shared) (H : Hp) (E : XK) (hr : Room k (A.deeper (envOfC (PySem.Str.ofString "_law_well") (defScope (top 19)) s.heap.objs.size (He.ga K (PySem.Str.ofString "_law_well")) cdv))) :
    PSs (cxOf (L2N.CX P w) P w K mg base N8 (PySem.Str.ofString "_law_well") (defScope (top 19)) (He.ga K (PySem.Str.ofString "_law_well")) cdv A outer s H E) (defBody (top 19)) (tS K (ca K) (fun cls d _ H => E cls d H) (d8 Γ)) := by
  have tk : L2N.Takes (cxOf (L2N.CX P w) P w K mg base N8 (PySem.Str.ofString "_law_well") (defScope (top 19)) (He.ga K (PySem.Str.ofString "_law_well")) cdv A outer s H E) (fun cls d _ H => E cls d H) := L2N.takes_of rfl rfl rfl rfl
  have po : PassesOwn (model P w) (A.deeper (envOfC (PySem.Str.ofString "_law_well") (defScope (top 19)) s.heap.objs.size (He.ga K (PySem.Str.ofString "_law_well")) cdv)) _ (cxOf (L2N.CX P w) P w K mg base N8 (PySem.Str.ofString "_law_well") (defScope (top 19)) (He.ga K (PySem.Str.ofString "_law_well")) cdv A outer s H E).xe := passes_of (X := cxOf (L2N.CX P w) P w K mg base N8 (PySem.Str.ofString "_law_well") (defScope (top 19)) (He.ga K (PySem.Str.ofString "_law_well")) cdv A outer s H E) rfl
  have hu := hr.units
  have hu1 : (A.deeper (envOfC (PySem.Str.ofString "_law_well") (defScope (top 19)) s.heap.objs.size (He.ga K (PySem.Str.ofString "_law_well")) cdv)).units + 65 < cLine := by have := hr.un; omega
  unfold d8
  exact (s_cons (s_set (i := 2) hN8 rfl (Or.inl rfl) e_int)
    (s_cons (s_if (t_cmp r_lt m_lt (e_var rfl (Or.inl rfl)) (e_fnB c_len n_len rfl x.b_len (by decide +kernel) (d_cons (e_var rfl (Or.inl rfl)) d_nil)) rfl)
    (s_one (s_set (i := 2) hN8 rfl (Or.inl rfl) (e_fnT c_int n_int rfl x.b_int (by decide +kernel) (d_cons (e_idx (e_var rfl (Or.inl rfl)) (e_var rfl (Or.inl rfl)) (fun _ _ => rfl)) d_nil))))
    s_nil)
    (s_one (s_ret (f_new (f_lst (d_cons (e_fnB (c_max2 rfl) n_max2 rfl x.b_max (by decide +kernel) (d_cons e_int (d_cons (e_bin r_sub m_sub (e_fnB c_abs n_abs rfl x.b_abs (by decide +kernel) (d_cons (e_var rfl (Or.inl rfl)) d_nil)) (e_bin r_pow m_pow e_int e_int)) d_nil))) (d_cons (e_bin r_cat m_cat (e_bin r_cat m_cat (e_bin r_rep m_rep (e_bin r_mod m_mod (e_fnT c_int n_int rfl x.b_int (by decide +kernel) (d_cons (e_var rfl (Or.inl rfl)) d_nil)) (e_bin r_cat m_cat (e_bin r_pow m_pow e_int e_int) e_int)) e_int) (e_bin r_rep m_rep e_int (e_var rfl (Or.inl rfl)))) e_int) (d_cons e_int d_nil))) (len_cons (len_cons (len_cons len_nil)))))))))
/-- _law_draw -/
theorem b9 {Γ : Calls} {k : Nat} (x : Ctx K mg) (hk : 2 ≤ k) (IH : AllOk P w K mg base x k Γ) (cdv : Value) (A : Around) (outer : List PySem.Env) (s : Shared) (H : Hp) (E : XK) (hr : Room k (A.deeper (envOfC (PySem.Str.ofString "_law_draw") (defScope (top 20)) s.heap.objs.size (He.ga K (PySem.Str.ofString "_law_draw")) cdv))) :
    PSs (cxOf (L2N.CX P w) P w K mg base N9 (PySem.Str.ofString "_law_draw") (defScope (top 20)) (He.ga K (PySem.Str.ofString "_law_draw")) cdv A outer s H E) (defBody (top 20)) (tS K (ca K) (fun cls d _ H => E cls d H) (d9 Γ)) := by
  have tk : L2N.Takes (cxOf (L2N.CX P w) P w K mg base N9 (PySem.Str.ofString "_law_draw") (defScope (top 20)) (He.ga K (PySem.Str.ofString "_law_draw")) cdv A outer s H E) (fun cls d _ H => E cls d H) := L2N.takes_of rfl rfl rfl rfl
  have po : PassesOwn (model P w) (A.deeper (envOfC (PySem.Str.ofString "_law_draw") (defScope (top 20)) s.heap.objs.size (He.ga K (PySem.Str.ofString "_law_draw")) cdv)) _ (cxOf (L2N.CX P w) P w K mg base N9 (PySem.Str.ofString "_law_draw") (defScope (top 20)) (He.ga K (PySem.Str.ofString "_law_draw")) cdv A outer s H E).xe := passes_of (X := cxOf (L2N.CX P w) P w K mg base N9 (PySem.Str.ofString "_law_draw") (defScope (top 20)) (He.ga K (PySem.Str.ofString "_law_draw")) cdv A outer s H E) rfl
  have hu := hr.units
  have hu1 : (A.deeper (envOfC (PySem.Str.ofString "_law_draw") (defScope (top 20)) s.heap.objs.size (He.ga K (PySem.Str.ofString "_law_draw")) cdv)).units + 65 < cLine := by have := hr.un; omega
  unfold d9
  exact (s_cons (s_if (t_cmp r_gt m_gt (e_idx (e_var rfl (Or.inl rfl)) e_int (fun _ _ => rfl)) e_int rfl)
    (s_cons (s_set (i := 2) hN9 rfl (Or.inl rfl) (e_bin r_mod m_mod (e_fnT c_int n_int rfl x.b_int (by decide +kernel) (d_cons (e_idx (e_var rfl (Or.inl rfl)) e_int (fun _ _ => rfl)) d_nil)) (e_var rfl (Or.inl rfl))))
    (s_cons (s_setI (e_bin r_fdiv m_fdiv (e_idx (e_var rfl (Or.inl rfl)) e_int (fun _ _ => rfl)) (e_var rfl (Or.inl rfl))) (e_var rfl (Or.inl rfl)) e_int)
    (s_one (s_ret (e_var rfl (Or.inl rfl))))))
    s_nil)
    (s_cons (s_setI (e_bin r_cat m_cat (e_idx (e_var rfl (Or.inl rfl)) e_int (fun _ _ => rfl)) e_int) (e_var rfl (Or.inl rfl)) e_int)
    (s_cons (s_set (i := 3) hN9 rfl (Or.inl rfl) (e_bin r_mod m_mod (e_fnT c_int n_int rfl x.b_int (by decide +kernel) (d_cons (e_bin r_cat m_cat (e_bin r_powW m_powW (e_bin r_cat m_cat (e_idx (e_var rfl (Or.inl rfl)) e_int (fun _ _ => rfl)) (e_bin r_rep m_rep e_int (e_idx (e_var rfl (Or.inl rfl)) e_int (fun _ _ => rfl)))) e_int) (e_idx (e_var rfl (Or.inl rfl)) e_int (fun _ _ => rfl))) d_nil)) (e_bin r_cat m_cat (e_bin r_pow m_pow e_int e_int) e_int)))
    (s_cons (s_set (i := 3) hN9 rfl (Or.inl rfl) (e_bin r_mod m_mod (e_fnT c_int n_int rfl x.b_int (by decide +kernel) (d_cons (e_bin r_cat m_cat (e_bin r_powW m_powW (e_bin r_cat m_cat (e_var rfl (Or.inl rfl)) (e_bin r_rep m_rep e_int (e_idx (e_var rfl (Or.inl rfl)) e_int (fun _ _ => rfl)))) e_int) (e_var rfl (Or.inl rfl))) d_nil)) (e_bin r_cat m_cat (e_bin r_pow m_pow e_int e_int) e_int)))
    (s_one (s_ret (e_bin r_mod m_mod (e_fnT c_int n_int rfl x.b_int (by decide +kernel) (d_cons (e_bin r_fdiv m_fdiv (e_var rfl (Or.inl rfl)) (e_bin r_pow m_pow e_int e_int)) d_nil)) (e_var rfl (Or.inl rfl)))))))))
/-- _law_letters -/
theorem b10 {Γ : Calls} {k : Nat} (x : Ctx K mg) (hk : 2 ≤ k) (IH : AllOk P w K mg base x k Γ) (cdv : Value) (A : Around) (outer : List PySem.Env) (s : Shared) (H : Hp) (E : XK) (hr : Room k (A.deeper (envOfC (PySem.Str.ofString "_law_letters") (defScope (top 21)) s.heap.objs.size (He.ga K (PySem.Str.ofString "_law_letters")) cdv))) :
    PSs (cxOf (L2N.CX P w) P w K mg base N10 (PySem.Str.ofString "_law_letters") (defScope (top 21)) (He.ga K (PySem.Str.ofString "_law_letters")) cdv A outer s H E) (defBody (top 21)) (tS K (ca K) (fun cls d _ H => E cls d H) (d10 Γ)) := by
  have tk : L2N.Takes (cxOf (L2N.CX P w) P w K mg base N10 (PySem.Str.ofString "_law_letters") (defScope (top 21)) (He.ga K (PySem.Str.ofString "_law_letters")) cdv A outer s H E) (fun cls d _ H => E cls d H) := L2N.takes_of rfl rfl rfl rfl
  have po : PassesOwn (model P w) (A.deeper (envOfC (PySem.Str.ofString "_law_letters") (defScope (top 21)) s.heap.objs.size (He.ga K (PySem.Str.ofString "_law_letters")) cdv)) _ (cxOf (L2N.CX P w) P w K mg base N10 (PySem.Str.ofString "_law_letters") (defScope (top 21)) (He.ga K (PySem.Str.ofString "_law_letters")) cdv A outer s H E).xe := passes_of (X := cxOf (L2N.CX P w) P w K mg base N10 (PySem.Str.ofString "_law_letters") (defScope (top 21)) (He.ga K (PySem.Str.ofString "_law_letters")) cdv A outer s H E) rfl
  have hu := hr.units
  have hu1 : (A.deeper (envOfC (PySem.Str.ofString "_law_letters") (defScope (top 21)) s.heap.objs.size (He.ga K (PySem.Str.ofString "_law_letters")) cdv)).units + 65 < cLine := by have := hr.un; omega
  unfold d10
  exact (s_cons (s_par (i := 2) (j := 3) rfl hN10 rfl rfl (by decide) rfl rfl (f_new (f_fnT (c_listS rfl) n_listS rfl x.b_list (by decide +kernel) (d_cons e_str d_nil))) (f_new (f_lst d_nil len_nil)) rfl)
    (s_cons (s_for po rfl (i_rng1 rfl x.b_range (e_var rfl (Or.inl rfl))) (g_name hN10 rfl (Or.inl rfl))
    (s_one (s_expr (e_app (e_var rfl (Or.inl rfl)) (e_popAt (e_var rfl (Or.inl rfl)) (e_call (IH.f9) hr rfl x.g__law_draw x.F9.kp (bN9 x) tk (d_cons (e_var rfl (Or.inl rfl)) (d_cons (e_fnB c_len n_len rfl x.b_len (by decide +kernel) (d_cons (e_var rfl (Or.inl rfl)) d_nil)) d_nil)) (len_cons (len_cons len_nil))))))))
    (s_one (s_ret (e_str1 F.slot_str_join F.type_str_join rt_join ms_join e_str (f_val (f_fnB c_sortS n_sortS rfl x.b_sorted (by decide +kernel) (d_cons (e_var rfl (Or.inl rfl)) d_nil))))))))
/-- _law_messages -/
theorem b11 {Γ : Calls} {k : Nat} (x : Ctx K mg) (hk : 2 ≤ k) (IH : AllOk P w K mg base x k Γ) (cdv : Value) (A : Around) (outer : List PySem.Env) (s : Shared) (H : Hp) (E : XK) (hr : Room k (A.deeper (envOfC (PySem.Str.ofString "_law_messages") (defScope (top 22)) s.heap.objs.size (He.ga K (PySem.Str.ofString "_law_messages")) cdv))) :
    PSs (cxOf (L2N.CX P w) P w K mg base N11 (PySem.Str.ofString "_law_messages") (defScope (top 22)) (He.ga K (PySem.Str.ofString "_law_messages")) cdv A outer s H E) (defBody (top 22)) (tS K (ca K) (fun cls d _ H => E cls d H) (d11 Γ)) := by
  have tk : L2N.Takes (cxOf (L2N.CX P w) P w K mg base N11 (PySem.Str.ofString "_law_messages") (defScope (top 22)) (He.ga K (PySem.Str.ofString "_law_messages")) cdv A outer s H E) (fun cls d _ H => E cls d H) := L2N.takes_of rfl rfl rfl rfl
  have po : PassesOwn (model P w) (A.deeper (envOfC (PySem.Str.ofString "_law_messages") (defScope (top 22)) s.heap.objs.size (He.ga K (PySem.Str.ofString "_law_messages")) cdv)) _ (cxOf (L2N.CX P w) P w K mg base N11 (PySem.Str.ofString "_law_messages") (defScope (top 22)) (He.ga K (PySem.Str.ofString "_law_messages")) cdv A outer s H E).xe := passes_of (X := cxOf (L2N.CX P w) P w K mg base N11 (PySem.Str.ofString "_law_messages") (defScope (top 22)) (He.ga K (PySem.Str.ofString "_law_messages")) cdv A outer s H E) rfl
  have hu := hr.units
  have hu1 : (A.deeper (envOfC (PySem.Str.ofString "_law_messages") (defScope (top 22)) s.heap.objs.size (He.ga K (PySem.Str.ofString "_law_messages")) cdv)).units + 65 < cLine := by have := hr.un; omega
  unfold d11
  exact (s_cons (s_par (i := 2) (j := 3) rfl hN11 rfl rfl (by decide) rfl rfl (f_new (f_lst d_nil len_nil)) (f_val (f_lst (d_cons e_str d_nil) (len_cons len_nil))) rfl)
    (s_cons (s_for po rfl (i_rng1 rfl x.b_range (e_var rfl (Or.inl rfl))) (g_name hN11 rfl (Or.inl rfl))
    (s_cons (s_expr (e_ext (e_var rfl (Or.inl rfl)) (e_var rfl (Or.inl rfl))))
    (s_cons (s_set (i := 5) hN11 rfl (Or.inl rfl) (f_new (f_lst d_nil len_nil)))
    (s_cons (s_for po rfl (i_seq (e_var rfl (Or.inl rfl))) (g_name hN11 rfl (Or.inr rfl))
    (s_one (s_expr (e_ext (e_var rfl (Or.inl rfl)) (e_lc (own := [(PySem.Str.ofString "letter", 7)]) rfl hN11 rfl (i_seqS (e_var rfl (Or.inl rfl))) (blkOk_by (by kernel_rfl)) (fun _ _ _ _ _ => (gv_name (by decide) hN11 rfl (Or.inl rfl))) (fun _ _ _ _ _ => pts0) (fun _ _ _ _ _ => (e_bin r_cat m_cat (e_var rfl (Or.inr (Or.inl rfl))) (e_var rfl (Or.inl rfl)))))))))
    (s_one (s_set (i := 3) hN11 rfl (Or.inl rfl) (e_var rfl (Or.inl rfl))))))))
    (s_one (s_ret (e_var rfl (Or.inl rfl))))))
/-- _law_order -/
theorem b12 {Γ : Calls} {k : Nat} (x : Ctx K mg) (hk : 2 ≤ k) (IH : AllOk P w K mg base x k Γ) (cdv : Value) (A : Around) (outer : List PySem.Env) (s : Shared) (H : Hp) (E : XK) (hr : Room k (A.deeper (envOfC (PySem.Str.ofString "_law_order") (defScope (top 23)) s.heap.objs.size (He.ga K (PySem.Str.ofString "_law_order")) cdv))) :
    PSs (cxOf (L2N.CX P w) P w K mg base N12 (PySem.Str.ofString "_law_order") (defScope (top 23)) (He.ga K (PySem.Str.ofString "_law_order")) cdv A outer s H E) (defBody (top 23)) (tS K (ca K) (fun cls d _ H => E cls d H) (d12 Γ)) := by
  have tk : L2N.Takes (cxOf (L2N.CX P w) P w K mg base N12 (PySem.Str.ofString "_law_order") (defScope (top 23)) (He.ga K (PySem.Str.ofString "_law_order")) cdv A outer s H E) (fun cls d _ H => E cls d H) := L2N.takes_of rfl rfl rfl rfl
  have po : PassesOwn (model P w) (A.deeper (envOfC (PySem.Str.ofString "_law_order") (defScope (top 23)) s.heap.objs.size (He.ga K (PySem.Str.ofString "_law_order")) cdv)) _ (cxOf (L2N.CX P w) P w K mg base N12 (PySem.Str.ofString "_law_order") (defScope (top 23)) (He.ga K (PySem.Str.ofString "_law_order")) cdv A outer s H E).xe := passes_of (X := cxOf (L2N.CX P w) P w K mg base N12 (PySem.Str.ofString "_law_order") (defScope (top 23)) (He.ga K (PySem.Str.ofString "_law_order")) cdv A outer s H E) rfl
  have hu := hr.units
  have hu1 : (A.deeper (envOfC (PySem.Str.ofString "_law_order") (defScope (top 23)) s.heap.objs.size (He.ga K (PySem.Str.ofString "_law_order")) cdv)).units + 65 < cLine := by have := hr.un; omega
  unfold d12
  exact (s_cons (s_par (i := 2) (j := 3) rfl hN12 rfl rfl (by decide) rfl rfl (e_call (IH.f9) hr rfl x.g__law_draw x.F9.kp (bN9 x) tk (d_cons (e_var rfl (Or.inl rfl)) (d_cons e_int d_nil)) (len_cons (len_cons len_nil))) (f_new (f_fnT c_list n_list rfl x.b_list (by decide +kernel) (d_cons (e_var rfl (Or.inl rfl)) d_nil))) rfl)
    (s_cons (s_if (t_cmp (r_eq hu) m_eq (e_var rfl (Or.inl rfl)) e_int rfl)
    (s_one (s_ret (f_val (f_rev (e_var rfl (Or.inl rfl))))))
    s_nil)
    (s_cons (s_if (t_cmp (r_eq hu) m_eq (e_var rfl (Or.inl rfl)) e_int rfl)
    (s_one (s_ret (e_bin r_cat m_cat (f_val (f_stepC (e_var rfl (Or.inl rfl)))) (f_val (f_step0 (e_var rfl (Or.inl rfl)))))))
    s_nil)
    (s_cons (s_if (t_cmp (r_eq hu) m_eq (e_var rfl (Or.inl rfl)) e_int rfl)
    (s_cons (s_set (i := 4) hN12 rfl (Or.inl rfl) (e_call (IH.f9) hr rfl x.g__law_draw x.F9.kp (bN9 x) tk (d_cons (e_var rfl (Or.inl rfl)) (d_cons (e_bin r_cat m_cat (e_fnB c_len n_len rfl x.b_len (by decide +kernel) (d_cons (e_var rfl (Or.inl rfl)) d_nil)) e_int) d_nil)) (len_cons (len_cons len_nil))))
    (s_one (s_ret (e_bin r_cat m_cat (e_sl (e_var rfl (Or.inl rfl)) (o_some (e_var rfl (Or.inl rfl))) o_none) (e_sl (e_var rfl (Or.inl rfl)) o_none (o_some (e_var rfl (Or.inl rfl))))))))
    s_nil)
    (s_cons (s_set (i := 5) hN12 rfl (Or.inl rfl) (f_new (f_lst d_nil len_nil)))
    (s_cons (s_for po rfl (i_rng1 rfl x.b_range (e_fnB c_len n_len rfl x.b_len (by decide +kernel) (d_cons (e_var rfl (Or.inl rfl)) d_nil))) (g_name hN12 rfl (Or.inl rfl))
    (s_one (s_expr (e_app (e_var rfl (Or.inl rfl)) (e_popAt (e_var rfl (Or.inl rfl)) (e_call (IH.f9) hr rfl x.g__law_draw x.F9.kp (bN9 x) tk (d_cons (e_var rfl (Or.inl rfl)) (d_cons (e_fnB c_len n_len rfl x.b_len (by decide +kernel) (d_cons (e_var rfl (Or.inl rfl)) d_nil)) d_nil)) (len_cons (len_cons len_nil))))))))
    (s_one (s_ret (e_var rfl (Or.inl rfl))))))))))
/-- _law_some -/
theorem b13 {Γ : Calls} {k : Nat} (x : Ctx K mg) (hk : 2 ≤ k) (IH : AllOk P w K mg base x k Γ) (cdv : Value) (A : Around) (outer : List PySem.Env) (s : Shared) (H : Hp) (E : XK) (hr : Room k (A.deeper (envOfC (PySem.Str.ofString "_law_some") (defScope (top 24)) s.heap.objs.size (He.ga K (PySem.Str.ofString "_law_some")) cdv))) :
    PSs (cxOf (L2N.CX P w) P w K mg base N13 (PySem.Str.ofString "_law_some") (defScope (top 24)) (He.ga K (PySem.Str.ofString "_law_some")) cdv A outer s H E) (defBody (top 24)) (tS K (ca K) (fun cls d _ H => E cls d H) (d13 Γ)) := by
  have tk : L2N.Takes (cxOf (L2N.CX P w) P w K mg base N13 (PySem.Str.ofString "_law_some") (defScope (top 24)) (He.ga K (PySem.Str.ofString "_law_some")) cdv A outer s H E) (fun cls d _ H => E cls d H) := L2N.takes_of rfl rfl rfl rfl
  have po : PassesOwn (model P w) (A.deeper (envOfC (PySem.Str.ofString "_law_some") (defScope (top 24)) s.heap.objs.size (He.ga K (PySem.Str.ofString "_law_some")) cdv)) _ (cxOf (L2N.CX P w) P w K mg base N13 (PySem.Str.ofString "_law_some") (defScope (top 24)) (He.ga K (PySem.Str.ofString "_law_some")) cdv A outer s H E).xe := passes_of (X := cxOf (L2N.CX P w) P w K mg base N13 (PySem.Str.ofString "_law_some") (defScope (top 24)) (He.ga K (PySem.Str.ofString "_law_some")) cdv A outer s H E) rfl
  have hu := hr.units
  have hu1 : (A.deeper (envOfC (PySem.Str.ofString "_law_some") (defScope (top 24)) s.heap.objs.size (He.ga K (PySem.Str.ofString "_law_some")) cdv)).units + 65 < cLine := by have := hr.un; omega
  unfold d13
  exact (s_cons (s_par (i := 2) (j := 3) rfl hN13 rfl rfl (by decide) rfl rfl (e_call (IH.f9) hr rfl x.g__law_draw x.F9.kp (bN9 x) tk (d_cons (e_var rfl (Or.inr (Or.inl rfl))) (d_cons e_int d_nil)) (len_cons (len_cons len_nil))) (e_call (IH.f9) hr rfl x.g__law_draw x.F9.kp (bN9 x) tk (d_cons (e_var rfl (Or.inr (Or.inl rfl))) (d_cons (e_bin r_cat m_cat (e_fnB c_len n_len rfl x.b_len (by decide +kernel) (d_cons (e_var rfl (Or.inl rfl)) d_nil)) e_int) d_nil)) (len_cons (len_cons len_nil))) rfl)
    (s_cons (s_if (t_cmp (r_eq hu) m_eq (e_var rfl (Or.inl rfl)) e_int rfl)
    (s_one (s_ret (f_val (f_lst d_nil len_nil))))
    s_nil)
    (s_cons (s_if (t_cmp (r_eq hu) m_eq (e_var rfl (Or.inl rfl)) e_int rfl)
    (s_one (s_ret (f_val (f_fnT c_list n_list rfl x.b_list (by decide +kernel) (d_cons (e_var rfl (Or.inl rfl)) d_nil)))))
    s_nil)
    (s_cons (s_if (t_cmp (r_eq hu) m_eq (e_var rfl (Or.inl rfl)) e_int rfl)
    (s_one (s_ret (e_sl (e_var rfl (Or.inl rfl)) o_none (o_some (e_var rfl (Or.inl rfl))))))
    s_nil)
    (s_cons (s_if (t_cmp (r_eq hu) m_eq (e_var rfl (Or.inl rfl)) e_int rfl)
    (s_one (s_ret (e_bin r_cat m_cat (e_sl (e_var rfl (Or.inl rfl)) o_none (o_some (e_var rfl (Or.inl rfl)))) (e_sl (e_var rfl (Or.inl rfl)) (o_some (e_bin r_cat m_cat (e_var rfl (Or.inl rfl)) e_int)) o_none))))
    s_nil)
    (s_cons (s_if (t_cmp (r_eq hu) m_eq (e_var rfl (Or.inl rfl)) e_int rfl)
    (s_one (s_ret (e_sl (e_var rfl (Or.inl rfl)) (o_some (e_var rfl (Or.inl rfl))) o_none)))
    s_nil)
    (s_one (s_ret (e_lc (own := [(PySem.Str.ofString "one", 4)]) rfl hN13 rfl (i_seq (e_var rfl (Or.inl rfl))) (blkOk_by (by kernel_rfl)) (fun _ _ _ _ _ => (gv_name (by decide) hN13 rfl (Or.inl rfl))) (fun _ _ _ _ _ => (pts1 (t_cmp r_gt m_gt (e_call (IH.f9) hr rfl x.g__law_draw x.F9.kp (bN9 x) tk0 (d_cons (e_var rfl (Or.inr (Or.inl rfl))) (d_cons e_int d_nil)) (len_cons (len_cons len_nil))) e_int rfl))) (fun _ _ _ _ _ => (e_var rfl (Or.inl rfl))))))))))))
/-- _law_longer -/
theorem b14 {Γ : Calls} {k : Nat} (x : Ctx K mg) (hk : 2 ≤ k) (IH : AllOk P w K mg base x k Γ) (cdv : Value) (A : Around) (outer : List PySem.Env) (s : Shared) (H : Hp) (E : XK) (hr : Room k (A.deeper (envOfC (PySem.Str.ofString "_law_longer") (defScope (top 25)) s.heap.objs.size (He.ga K (PySem.Str.ofString "_law_longer")) cdv))) :
    PSs (cxOf (L2N.CX P w) P w K mg base N14 (PySem.Str.ofString "_law_longer") (defScope (top 25)) (He.ga K (PySem.Str.ofString "_law_longer")) cdv A outer s H E) (defBody (top 25)) (tS K (ca K) (fun cls d _ H => E cls d H) (d14 Γ)) := by
  have tk : L2N.Takes (cxOf (L2N.CX P w) P w K mg base N14 (PySem.Str.ofString "_law_longer") (defScope (top 25)) (He.ga K (PySem.Str.ofString "_law_longer")) cdv A outer s H E) (fun cls d _ H => E cls d H) := L2N.takes_of rfl rfl rfl rfl
  have po : PassesOwn (model P w) (A.deeper (envOfC (PySem.Str.ofString "_law_longer") (defScope (top 25)) s.heap.objs.size (He.ga K (PySem.Str.ofString "_law_longer")) cdv)) _ (cxOf (L2N.CX P w) P w K mg base N14 (PySem.Str.ofString "_law_longer") (defScope (top 25)) (He.ga K (PySem.Str.ofString "_law_longer")) cdv A outer s H E).xe := passes_of (X := cxOf (L2N.CX P w) P w K mg base N14 (PySem.Str.ofString "_law_longer") (defScope (top 25)) (He.ga K (PySem.Str.ofString "_law_longer")) cdv A outer s H E) rfl
  have hu := hr.units
  have hu1 : (A.deeper (envOfC (PySem.Str.ofString "_law_longer") (defScope (top 25)) s.heap.objs.size (He.ga K (PySem.Str.ofString "_law_longer")) cdv)).units + 65 < cLine := by have := hr.un; omega
  unfold d14
  exact (s_cons (s_set (i := 3) hN14 rfl (Or.inl rfl) (f_new (f_lst d_nil len_nil)))
    (s_cons (s_for po rfl (i_rng1 rfl x.b_range (e_call (IH.f9) hr rfl x.g__law_draw x.F9.kp (bN9 x) tk (d_cons (e_var rfl (Or.inr (Or.inl rfl))) (d_cons e_int d_nil)) (len_cons (len_cons len_nil)))) (g_name hN14 rfl (Or.inl rfl))
    (s_one (s_expr (e_app (e_var rfl (Or.inl rfl)) (e_str1 F.slot_str_join F.type_str_join rt_join ms_join e_str (e_lc (own := [(PySem.Str.ofString "j", 5)]) rfl hN14 rfl (i_rng1 rfl x.b_range (e_bin r_cat m_cat (e_bin r_rep m_rep e_int (e_var rfl (Or.inl rfl))) (e_var rfl (Or.inl rfl)))) (blkOk_by (by kernel_rfl)) (fun _ _ _ _ _ => (gv_name (by decide) hN14 rfl (Or.inl rfl))) (fun _ _ _ _ _ => pts0) (fun _ _ _ _ _ => (e_idx (e_var rfl (Or.inr (Or.inl rfl))) (e_call (IH.f9) hr rfl x.g__law_draw x.F9.kp (bN9 x) tk0 (d_cons (e_var rfl (Or.inr (Or.inl rfl))) (d_cons (e_fnB c_len n_len rfl x.b_len (by decide +kernel) (d_cons (e_var rfl (Or.inr (Or.inl rfl))) d_nil)) d_nil)) (len_cons (len_cons len_nil))) (fun _ _ => rfl)))))))))
    (s_one (s_ret (e_var rfl (Or.inl rfl))))))
/-- _law_number -/
theorem b15 {Γ : Calls} {k : Nat} (x : Ctx K mg) (hk : 2 ≤ k) (IH : AllOk P w K mg base x k Γ) (cdv : Value) (A : Around) (outer : List PySem.Env) (s : Shared) (H : Hp) (E : XK) (hr : Room k (A.deeper (envOfC (PySem.Str.ofString "_law_number") (defScope (top 26)) s.heap.objs.size (He.ga K (PySem.Str.ofString "_law_number")) cdv))) :
    PSs (cxOf (L2N.CX P w) P w K mg base N15 (PySem.Str.ofString "_law_number") (defScope (top 26)) (He.ga K (PySem.Str.ofString "_law_number")) cdv A outer s H E) (defBody (top 26)) (tS K (ca K) (fun cls d _ H => E cls d H) (d15 Γ)) := by
  have tk : L2N.Takes (cxOf (L2N.CX P w) P w K mg base N15 (PySem.Str.ofString "_law_number") (defScope (top 26)) (He.ga K (PySem.Str.ofString "_law_number")) cdv A outer s H E) (fun cls d _ H => E cls d H) := L2N.takes_of rfl rfl rfl rfl
  have po : PassesOwn (model P w) (A.deeper (envOfC (PySem.Str.ofString "_law_number") (defScope (top 26)) s.heap.objs.size (He.ga K (PySem.Str.ofString "_law_number")) cdv)) _ (cxOf (L2N.CX P w) P w K mg base N15 (PySem.Str.ofString "_law_number") (defScope (top 26)) (He.ga K (PySem.Str.ofString "_law_number")) cdv A outer s H E).xe := passes_of (X := cxOf (L2N.CX P w) P w K mg base N15 (PySem.Str.ofString "_law_number") (defScope (top 26)) (He.ga K (PySem.Str.ofString "_law_number")) cdv A outer s H E) rfl
  have hu := hr.units
  have hu1 : (A.deeper (envOfC (PySem.Str.ofString "_law_number") (defScope (top 26)) s.heap.objs.size (He.ga K (PySem.Str.ofString "_law_number")) cdv)).units + 65 < cLine := by have := hr.un; omega
  unfold d15
  exact (s_cons (s_set (i := 1) hN15 rfl (Or.inl rfl) (e_call (IH.f9) hr rfl x.g__law_draw x.F9.kp (bN9 x) tk (d_cons (e_var rfl (Or.inl rfl)) (d_cons e_int d_nil)) (len_cons (len_cons len_nil))))
    (s_cons (s_if (t_cmp (r_eq hu) m_eq (e_var rfl (Or.inl rfl)) e_int rfl)
    (s_one (s_ret (e_tup (d_cons (e_bin r_sub m_sub (e_call (IH.f9) hr rfl x.g__law_draw x.F9.kp (bN9 x) tk (d_cons (e_var rfl (Or.inl rfl)) (d_cons e_int d_nil)) (len_cons (len_cons len_nil))) e_int) (d_cons e_int d_nil)) (len_cons (len_cons len_nil)))))
    s_nil)
    (s_cons (s_if (t_cmp (r_eq hu) m_eq (e_var rfl (Or.inl rfl)) e_int rfl)
    (s_one (s_ret (e_tup (d_cons (e_bin r_sub m_sub (e_bin r_rep m_rep e_int (e_call (IH.f9) hr rfl x.g__law_draw x.F9.kp (bN9 x) tk (d_cons (e_var rfl (Or.inl rfl)) (d_cons e_int d_nil)) (len_cons (len_cons len_nil)))) e_int) (d_cons e_int d_nil)) (len_cons (len_cons len_nil)))))
    s_nil)
    (s_one (s_ret (e_tup (d_cons (e_bin r_cat m_cat (e_bin r_pow m_pow e_int e_int) (e_call (IH.f9) hr rfl x.g__law_draw x.F9.kp (bN9 x) tk (d_cons (e_var rfl (Or.inl rfl)) (d_cons (e_bin r_rep m_rep e_int (e_bin r_pow m_pow e_int e_int)) d_nil)) (len_cons (len_cons len_nil)))) (d_cons e_int d_nil)) (len_cons (len_cons len_nil))))))))
/-- _law_listed -/
theorem b16 {Γ : Calls} {k : Nat} (x : Ctx K mg) (hk : 2 ≤ k) (IH : AllOk P w K mg base x k Γ) (cdv : Value) (A : Around) (outer : List PySem.Env) (s : Shared) (H : Hp) (E : XK) (hr : Room k (A.deeper (envOfC (PySem.Str.ofString "_law_listed") (defScope (top 27)) s.heap.objs.size (He.ga K (PySem.Str.ofString "_law_listed")) cdv))) :
    PSs (cxOf (L2N.CX P w) P w K mg base N16 (PySem.Str.ofString "_law_listed") (defScope (top 27)) (He.ga K (PySem.Str.ofString "_law_listed")) cdv A outer s H E) (defBody (top 27)) (tS K (ca K) (fun cls d _ H => E cls d H) (d16 Γ)) := by
  have tk : L2N.Takes (cxOf (L2N.CX P w) P w K mg base N16 (PySem.Str.ofString "_law_listed") (defScope (top 27)) (He.ga K (PySem.Str.ofString "_law_listed")) cdv A outer s H E) (fun cls d _ H => E cls d H) := L2N.takes_of rfl rfl rfl rfl
  have po : PassesOwn (model P w) (A.deeper (envOfC (PySem.Str.ofString "_law_listed") (defScope (top 27)) s.heap.objs.size (He.ga K (PySem.Str.ofString "_law_listed")) cdv)) _ (cxOf (L2N.CX P w) P w K mg base N16 (PySem.Str.ofString "_law_listed") (defScope (top 27)) (He.ga K (PySem.Str.ofString "_law_listed")) cdv A outer s H E).xe := passes_of (X := cxOf (L2N.CX P w) P w K mg base N16 (PySem.Str.ofString "_law_listed") (defScope (top 27)) (He.ga K (PySem.Str.ofString "_law_listed")) cdv A outer s H E) rfl
  have hu := hr.units
  have hu1 : (A.deeper (envOfC (PySem.Str.ofString "_law_listed") (defScope (top 27)) s.heap.objs.size (He.ga K (PySem.Str.ofString "_law_listed")) cdv)).units + 65 < cLine := by have := hr.un; omega
  unfold d16
  exact (s_cons (s_set (i := 4) hN16 rfl (Or.inl rfl) (e_ifExp (t_cmp (r_eq hu) m_eq (e_call (IH.f9) hr rfl x.g__law_draw x.F9.kp (bN9 x) tk (d_cons (e_var rfl (Or.inl rfl)) (d_cons e_int d_nil)) (len_cons (len_cons len_nil))) e_int rfl) (e_call (IH.f6) hr rfl x.g_asked x.F6.kp (bN6 x) tk (d_cons (e_var rfl (Or.inl rfl)) (d_cons (e_var rfl (Or.inl rfl)) d_nil)) (len_cons (len_cons len_nil))) (e_callP0 (IH.f6) hr rfl x.g_asked x.F6.kp (bindsP x.F6 (ks := [PySem.Str.ofString "size", PySem.Str.ofString "signs"]) (n := 0) (js := [1, 0]) (fun _ _ _ _ _ _ us ws hl hk => match us, hl with | [], _ => match ws, hk with | [_, _], _ => rfl)) tk (k_cons (e_var rfl (Or.inl rfl)) (k_cons (e_var rfl (Or.inl rfl)) k_nil)) (len_cons (len_cons len_nil)) (fun xs hl => match xs, hl with | [_, _], _ => rfl))))
    (s_cons (s_if (PW.pt (w_or (t_not (t_val (e_isi x.C (by decide) rfl x.b_isinstance (e_var rfl (Or.inl rfl)) (c_ty rfl x.b_list (by decide +kernel))))) (w_or (t_cmp (r_ne hu) m_ne (e_lc (own := [(PySem.Str.ofString "one", 5)]) rfl hN16 rfl (i_seq (e_var rfl (Or.inl rfl))) (blkOk_by (by kernel_rfl)) (fun _ _ _ _ _ => (gv_name (by decide) hN16 rfl (Or.inl rfl))) (fun _ _ _ _ _ => (pts1 (t_not (t_val (e_isi x.C (by decide) rfl x.b_isinstance (e_var rfl (Or.inl rfl)) (c_ty rfl x.b_str (by decide +kernel))))))) (fun _ _ _ _ _ => (e_var rfl (Or.inl rfl)))) (f_val (f_lst d_nil len_nil)) rfl) (w_or1 (t_cmp (r_ne hu) m_ne (e_var rfl (Or.inl rfl)) (e_var rfl (Or.inl rfl)) rfl)))))
    (s_one (s_ret e_bl))
    s_nil)
    (s_cons (s_expr (e_rev (e_var rfl (Or.inl rfl))))
    (s_cons (s_expr (e_app (e_var rfl (Or.inl rfl)) e_str))
    (s_one (s_ret (e_cmp (r_eq hu) m_eq (e_call (IH.f6) hr rfl x.g_asked x.F6.kp (bN6 x) tk (d_cons (e_var rfl (Or.inl rfl)) (d_cons (e_var rfl (Or.inl rfl)) d_nil)) (len_cons (len_cons len_nil))) (e_var rfl (Or.inl rfl)) rfl)))))))
/-- _law_next -/
theorem b17 {Γ : Calls} {k : Nat} (x : Ctx K mg) (hk : 2 ≤ k) (IH : AllOk P w K mg base x k Γ) (cdv : Value) (A : Around) (outer : List PySem.Env) (s : Shared) (H : Hp) (E : XK) (hr : Room k (A.deeper (envOfC (PySem.Str.ofString "_law_next") (defScope (top 28)) s.heap.objs.size (He.ga K (PySem.Str.ofString "_law_next")) cdv))) :
    PSs (cxOf (L2N.CX P w) P w K mg base N17 (PySem.Str.ofString "_law_next") (defScope (top 28)) (He.ga K (PySem.Str.ofString "_law_next")) cdv A outer s H E) (defBody (top 28)) (tS K (ca K) (fun cls d _ H => E cls d H) (d17 Γ)) := by
  have tk : L2N.Takes (cxOf (L2N.CX P w) P w K mg base N17 (PySem.Str.ofString "_law_next") (defScope (top 28)) (He.ga K (PySem.Str.ofString "_law_next")) cdv A outer s H E) (fun cls d _ H => E cls d H) := L2N.takes_of rfl rfl rfl rfl
  have po : PassesOwn (model P w) (A.deeper (envOfC (PySem.Str.ofString "_law_next") (defScope (top 28)) s.heap.objs.size (He.ga K (PySem.Str.ofString "_law_next")) cdv)) _ (cxOf (L2N.CX P w) P w K mg base N17 (PySem.Str.ofString "_law_next") (defScope (top 28)) (He.ga K (PySem.Str.ofString "_law_next")) cdv A outer s H E).xe := passes_of (X := cxOf (L2N.CX P w) P w K mg base N17 (PySem.Str.ofString "_law_next") (defScope (top 28)) (He.ga K (PySem.Str.ofString "_law_next")) cdv A outer s H E) rfl
  have hu := hr.units
  have hu1 : (A.deeper (envOfC (PySem.Str.ofString "_law_next") (defScope (top 28)) s.heap.objs.size (He.ga K (PySem.Str.ofString "_law_next")) cdv)).units + 65 < cLine := by have := hr.un; omega
  unfold d17
  exact (s_cons (s_set (i := 4) hN17 rfl (Or.inl rfl) (f_new (f_fnT c_list n_list rfl x.b_list (by decide +kernel) (d_cons (e_var rfl (Or.inl rfl)) d_nil))))
    (s_cons (s_if (t_val (e_var rfl (Or.inl rfl)))
    (s_one (s_set (i := 5) hN17 rfl (Or.inl rfl) (e_callP0 (IH.f7) hr rfl x.g_next_message x.F7.kp (bindsP x.F7 (ks := [PySem.Str.ofString "answers", PySem.Str.ofString "signs", PySem.Str.ofString "size"]) (n := 0) (js := [1, 2, 0]) (fun _ _ _ _ _ _ us ws hl hk => match us, hl with | [], _ => match ws, hk with | [_, _, _], _ => rfl)) tk (k_cons (e_var rfl (Or.inl rfl)) (k_cons (e_var rfl (Or.inl rfl)) (k_cons (e_var rfl (Or.inl rfl)) k_nil))) (len_cons (len_cons (len_cons len_nil))) (fun xs hl => match xs, hl with | [_, _, _], _ => rfl))))
    (s_one (s_set (i := 5) hN17 rfl (Or.inl rfl) (e_call (IH.f7) hr rfl x.g_next_message x.F7.kp (bN7 x) tk (d_cons (e_var rfl (Or.inl rfl)) (d_cons (e_var rfl (Or.inl rfl)) (d_cons (e_var rfl (Or.inl rfl)) d_nil))) (len_cons (len_cons (len_cons len_nil)))))))
    (s_cons (s_set (i := 6) hN17 rfl (Or.inl rfl) (e_cmp (r_eq hu) m_eq (e_var rfl (Or.inl rfl)) (e_var rfl (Or.inl rfl)) rfl))
    (s_cons (s_expr (e_clr (e_var rfl (Or.inl rfl))))
    (s_one (s_ret (e_ifExp (t_val (e_var rfl (Or.inl rfl))) (e_var rfl (Or.inl rfl)) e_str)))))))
/-- _law_nexts -/
theorem b18 {Γ : Calls} {k : Nat} (x : Ctx K mg) (hk : 2 ≤ k) (IH : AllOk P w K mg base x k Γ) (cdv : Value) (A : Around) (outer : List PySem.Env) (s : Shared) (H : Hp) (E : XK) (hr : Room k (A.deeper (envOfC (PySem.Str.ofString "_law_nexts") (defScope (top 29)) s.heap.objs.size (He.ga K (PySem.Str.ofString "_law_nexts")) cdv))) :
    PSs (cxOf (L2N.CX P w) P w K mg base N18 (PySem.Str.ofString "_law_nexts") (defScope (top 29)) (He.ga K (PySem.Str.ofString "_law_nexts")) cdv A outer s H E) (defBody (top 29)) (tS K (ca K) (fun cls d _ H => E cls d H) (d18 Γ)) := by
  have tk : L2N.Takes (cxOf (L2N.CX P w) P w K mg base N18 (PySem.Str.ofString "_law_nexts") (defScope (top 29)) (He.ga K (PySem.Str.ofString "_law_nexts")) cdv A outer s H E) (fun cls d _ H => E cls d H) := L2N.takes_of rfl rfl rfl rfl
  have po : PassesOwn (model P w) (A.deeper (envOfC (PySem.Str.ofString "_law_nexts") (defScope (top 29)) s.heap.objs.size (He.ga K (PySem.Str.ofString "_law_nexts")) cdv)) _ (cxOf (L2N.CX P w) P w K mg base N18 (PySem.Str.ofString "_law_nexts") (defScope (top 29)) (He.ga K (PySem.Str.ofString "_law_nexts")) cdv A outer s H E).xe := passes_of (X := cxOf (L2N.CX P w) P w K mg base N18 (PySem.Str.ofString "_law_nexts") (defScope (top 29)) (He.ga K (PySem.Str.ofString "_law_nexts")) cdv A outer s H E) rfl
  have hu := hr.units
  have hu1 : (A.deeper (envOfC (PySem.Str.ofString "_law_nexts") (defScope (top 29)) s.heap.objs.size (He.ga K (PySem.Str.ofString "_law_nexts")) cdv)).units + 65 < cLine := by have := hr.un; omega
  unfold d18
  exact (s_cons (s_for po rfl (i_rng1 rfl x.b_range e_int) (g_name hN18 rfl (Or.inl rfl))
    (s_cons (s_set (i := 6) hN18 rfl (Or.inr rfl) (e_fnT (c_dictP rfl) n_dictP rfl x.b_dict (by decide +kernel) (d_cons (e_lc (own := [(PySem.Str.ofString "note", 10)]) rfl hN18 rfl (i_seq (e_var rfl (Or.inl rfl))) (blkOk_by (by kernel_rfl)) (fun _ _ _ _ _ => (gv_name (by decide) hN18 rfl (Or.inl rfl))) (fun _ _ _ _ _ => pts0) (fun _ _ _ _ _ => (e_tup (d_cons (e_idx (e_var rfl (Or.inl rfl)) e_int (fun _ _ => rfl)) (d_cons e_bl d_nil)) (len_cons (len_cons len_nil))))) d_nil)))
    (s_cons (s_lc (k := 7) (own := [(PySem.Str.ofString "one", 11)]) rfl hN18 rfl rfl rfl rfl (i_seq (e_var rfl (Or.inl rfl))) (blkOk_by (by kernel_rfl)) (fun _ _ _ _ _ => (gv_name (by decide) hN18 rfl (Or.inl rfl))) (fun _ _ _ _ _ => (pts1 (t_ninD (Nat.lt_of_le_of_lt (Nat.add_le_add_left (by decide) _) hu1) (e_var rfl (Or.inl rfl)) (e_var rfl (Or.inr (Or.inl rfl)))))) (fun _ _ _ _ _ => (e_var rfl (Or.inl rfl))))
    (s_cons (s_set (i := 8) hN18 rfl (Or.inl rfl) (e_call (IH.f17) hr rfl x.g__law_next x.F17.kp (bN17 x) tk (d_cons (e_var rfl (Or.inl rfl)) (d_cons (e_var rfl (Or.inl rfl)) (d_cons (e_var rfl (Or.inl rfl)) (d_cons (e_cmp (r_eq hu) m_eq (e_call (IH.f9) hr rfl x.g__law_draw x.F9.kp (bN9 x) tk (d_cons (e_var rfl (Or.inl rfl)) (d_cons e_int d_nil)) (len_cons (len_cons len_nil))) e_int rfl) d_nil)))) (len_cons (len_cons (len_cons (len_cons len_nil))))))
    (s_cons (s_if (t_cmp (r_eq hu) m_eq (e_var rfl (Or.inl rfl)) (f_val (f_lst d_nil len_nil)) rfl)
    (s_one (s_ret (e_isN (e_var rfl (Or.inl rfl)))))
    s_nil)
    (s_cons (s_if (PW.pt (w_or (t_not (t_val (e_isi x.C (by decide) rfl x.b_isinstance (e_var rfl (Or.inl rfl)) (c_ty rfl x.b_str (by decide +kernel))))) (w_or1 (t_cmp (r_ne hu) m_ne (e_var rfl (Or.inl rfl)) (e_idx (e_var rfl (Or.inl rfl)) e_int (fun _ _ => rfl)) rfl))))
    (s_one (s_ret e_bl))
    s_nil)
    (s_cons (s_set (i := 9) hN18 rfl (Or.inl rfl) (f_val (f_lst (d_cons (e_tup (d_cons (e_idx (e_var rfl (Or.inl rfl)) e_int (fun _ _ => rfl)) (d_cons (e_call (IH.f15) hr rfl x.g__law_number x.F15.kp (bN15 x) tk (d_cons (e_var rfl (Or.inl rfl)) d_nil) (len_cons len_nil)) d_nil)) (len_cons (len_cons len_nil))) d_nil) (len_cons len_nil))))
    (s_one (s_set (i := 4) hN18 rfl (Or.inl rfl) (e_ifExp (t_cmp (r_eq hu) m_eq (e_call (IH.f9) hr rfl x.g__law_draw x.F9.kp (bN9 x) tk (d_cons (e_var rfl (Or.inl rfl)) (d_cons e_int d_nil)) (len_cons (len_cons len_nil))) e_int rfl) (e_bin r_cat m_cat (e_var rfl (Or.inl rfl)) (e_var rfl (Or.inl rfl))) (e_bin r_cat m_cat (e_var rfl (Or.inl rfl)) (e_var rfl (Or.inl rfl)))))))))))))
    (s_one (s_ret e_bl)))
/-- law -/
theorem b19 {Γ : Calls} {k : Nat} (x : Ctx K mg) (hk : 2 ≤ k) (IH : AllOk P w K mg base x k Γ) (cdv : Value) (A : Around) (outer : List PySem.Env) (s : Shared) (H : Hp) (E : XK) (hr : Room k (A.deeper (envOfC (PySem.Str.ofString "law") (defScope (top 30)) s.heap.objs.size (He.ga K (PySem.Str.ofString "law")) cdv))) :
    PSs (cxOf (L2N.CX P w) P w K mg base N19 (PySem.Str.ofString "law") (defScope (top 30)) (He.ga K (PySem.Str.ofString "law")) cdv A outer s H E) (defBody (top 30)) (tS K (ca K) (fun cls d _ H => E cls d H) (d19 Γ)) := by
  have tk : L2N.Takes (cxOf (L2N.CX P w) P w K mg base N19 (PySem.Str.ofString "law") (defScope (top 30)) (He.ga K (PySem.Str.ofString "law")) cdv A outer s H E) (fun cls d _ H => E cls d H) := L2N.takes_of rfl rfl rfl rfl
  have po : PassesOwn (model P w) (A.deeper (envOfC (PySem.Str.ofString "law") (defScope (top 30)) s.heap.objs.size (He.ga K (PySem.Str.ofString "law")) cdv)) _ (cxOf (L2N.CX P w) P w K mg base N19 (PySem.Str.ofString "law") (defScope (top 30)) (He.ga K (PySem.Str.ofString "law")) cdv A outer s H E).xe := passes_of (X := cxOf (L2N.CX P w) P w K mg base N19 (PySem.Str.ofString "law") (defScope (top 30)) (He.ga K (PySem.Str.ofString "law")) cdv A outer s H E) rfl
  have hu := hr.units
  have hu1 : (A.deeper (envOfC (PySem.Str.ofString "law") (defScope (top 30)) s.heap.objs.size (He.ga K (PySem.Str.ofString "law")) cdv)).units + 65 < cLine := by have := hr.un; omega
  unfold d19
  exact (s_cons (s_for po rfl (i_rng1 rfl x.b_range (e_fnB (c_max2 rfl) n_max2 rfl x.b_max (by decide +kernel) (d_cons e_int (d_cons (e_fnB (c_min2 rfl) n_min2 rfl x.b_min (by decide +kernel) (d_cons e_int (d_cons (e_fnB c_len n_len rfl x.b_len (by decide +kernel) (d_cons (e_var rfl (Or.inl rfl)) d_nil)) d_nil))) d_nil)))) (g_name hN19 rfl (Or.inl rfl))
    (s_cons (s_set (i := 2) hN19 rfl (Or.inr rfl) (e_call (IH.f8) hr rfl x.g__law_well x.F8.kp (bN8 x) tk (d_cons (e_var rfl (Or.inl rfl)) (d_cons (e_var rfl (Or.inl rfl)) d_nil)) (len_cons (len_cons len_nil))))
    (s_cons (s_set (i := 3) hN19 rfl (Or.inl rfl) (e_call (IH.f10) hr rfl x.g__law_letters x.F10.kp (bN10 x) tk (d_cons (e_var rfl (Or.inr (Or.inl rfl))) (d_cons (e_bin r_cat m_cat e_int (e_call (IH.f9) hr rfl x.g__law_draw x.F9.kp (bN9 x) tk (d_cons (e_var rfl (Or.inr (Or.inl rfl))) (d_cons e_int d_nil)) (len_cons (len_cons len_nil)))) d_nil)) (len_cons (len_cons len_nil))))
    (s_cons (s_set (i := 4) hN19 rfl (Or.inl rfl) (e_call (IH.f9) hr rfl x.g__law_draw x.F9.kp (bN9 x) tk (d_cons (e_var rfl (Or.inr (Or.inl rfl))) (d_cons (e_ifExp (t_cmp (r_eq hu) m_eq (e_fnB c_len n_len rfl x.b_len (by decide +kernel) (d_cons (e_var rfl (Or.inl rfl)) d_nil)) e_int rfl) e_int e_int) d_nil)) (len_cons (len_cons len_nil))))
    (s_cons (s_set (i := 5) hN19 rfl (Or.inl rfl) (e_call (IH.f11) hr rfl x.g__law_messages x.F11.kp (bN11 x) tk (d_cons (e_var rfl (Or.inl rfl)) (d_cons (e_bin r_rep m_rep e_int (e_var rfl (Or.inl rfl))) d_nil)) (len_cons (len_cons len_nil))))
    (s_cons (s_set (i := 6) hN19 rfl (Or.inl rfl) (e_bin r_cat m_cat (e_call (IH.f13) hr rfl x.g__law_some x.F13.kp (bN13 x) tk (d_cons (e_var rfl (Or.inr (Or.inl rfl))) (d_cons (e_var rfl (Or.inl rfl)) d_nil)) (len_cons (len_cons len_nil))) (e_call (IH.f14) hr rfl x.g__law_longer x.F14.kp (bN14 x) tk (d_cons (e_var rfl (Or.inr (Or.inl rfl))) (d_cons (e_var rfl (Or.inl rfl)) (d_cons (e_var rfl (Or.inl rfl)) d_nil))) (len_cons (len_cons (len_cons len_nil))))))
    (s_cons (s_set (i := 7) hN19 rfl (Or.inl rfl) (e_call (IH.f12) hr rfl x.g__law_order x.F12.kp (bN12 x) tk (d_cons (e_var rfl (Or.inr (Or.inl rfl))) (d_cons (e_lc (own := [(PySem.Str.ofString "one", 8)]) rfl hN19 rfl (i_seq (e_var rfl (Or.inl rfl))) (blkOk_by (by kernel_rfl)) (fun _ _ _ _ _ => (gv_name (by decide) hN19 rfl (Or.inl rfl))) (fun _ _ _ _ _ => pts0) (fun _ _ _ _ _ => (e_tup (d_cons (e_var rfl (Or.inl rfl)) (d_cons (e_call (IH.f15) hr rfl x.g__law_number x.F15.kp (bN15 x) tk0 (d_cons (e_var rfl (Or.inr (Or.inl rfl))) d_nil) (len_cons len_nil)) d_nil)) (len_cons (len_cons len_nil))))) d_nil)) (len_cons (len_cons len_nil))))
    (s_one (s_if (PW.pt (w_or (t_not (t_val (e_call (IH.f16) hr rfl x.g__law_listed x.F16.kp (bN16 x) tk (d_cons (e_var rfl (Or.inr (Or.inl rfl))) (d_cons (e_var rfl (Or.inl rfl)) (d_cons (e_var rfl (Or.inl rfl)) (d_cons (e_var rfl (Or.inl rfl)) d_nil)))) (len_cons (len_cons (len_cons (len_cons len_nil))))))) (w_or1 (t_not (t_val (e_call (IH.f18) hr rfl x.g__law_nexts x.F18.kp (bN18 x) tk (d_cons (e_var rfl (Or.inr (Or.inl rfl))) (d_cons (e_var rfl (Or.inl rfl)) (d_cons (e_var rfl (Or.inl rfl)) (d_cons (e_var rfl (Or.inl rfl)) (d_cons (e_var rfl (Or.inl rfl)) d_nil))))) (len_cons (len_cons (len_cons (len_cons (len_cons len_nil)))))))))))
    (s_one (s_ret e_bl))
    s_nil)))))))))
    (s_one (s_ret e_bl)))
theorem all (x : Ctx K mg) : ∀ n, AllOk P w K mg base x (n + 2) (calls n)
  | 0 => ⟨fn_none fun _ _ => rfl, fn_none fun _ _ => rfl, fn_none fun _ _ => rfl, fn_none fun _ _ => rfl, fn_none fun _ _ => rfl, fn_none fun _ _ => rfl, fn_none fun _ _ => rfl, fn_none fun _ _ => rfl, fn_none fun _ _ => rfl, fn_none fun _ _ => rfl, fn_none fun _ _ => rfl, fn_none fun _ _ => rfl, fn_none fun _ _ => rfl, fn_none fun _ _ => rfl, fn_none fun _ _ => rfl, fn_none fun _ _ => rfl, fn_none fun _ _ => rfl, fn_none fun _ _ => rfl, fn_none fun _ _ => rfl, fn_none fun _ _ => rfl⟩
  | n + 1 => by
    have IH := all x n
    exact ⟨fn_tidy x.F0 sc0 (fun _ _ _ => rfl) (b0 x (Nat.le_add_left 2 n) IH), fn_tidy x.F1 sc1 (fun _ _ _ => rfl) (b1 x (Nat.le_add_left 2 n) IH), fn_tidy x.F2 sc2 (fun _ _ _ => rfl) (b2 x (Nat.le_add_left 2 n) IH), fn_body x.F3 sc3 (fun _ _ _ => rfl) (b3 x (Nat.le_add_left 2 n) IH), fn_tidy x.F4 sc4 (fun _ _ _ => rfl) (b4 x (Nat.le_add_left 2 n) IH), fn_tidy x.F5 sc5 (fun _ _ _ => rfl) (b5 x (Nat.le_add_left 2 n) IH), fn_body x.F6 sc6 (fun _ _ _ => rfl) (b6 x (Nat.le_add_left 2 n) IH), fn_tidy x.F7 sc7 (fun _ _ _ => rfl) (b7 x (Nat.le_add_left 2 n) IH), fn_body x.F8 sc8 (fun _ _ _ => rfl) (b8 x (Nat.le_add_left 2 n) IH), fn_tidy x.F9 sc9 (fun _ _ _ => rfl) (b9 x (Nat.le_add_left 2 n) IH), fn_tidy x.F10 sc10 (fun _ _ _ => rfl) (b10 x (Nat.le_add_left 2 n) IH), fn_tidy x.F11 sc11 (fun _ _ _ => rfl) (b11 x (Nat.le_add_left 2 n) IH), fn_tidy x.F12 sc12 (fun _ _ _ => rfl) (b12 x (Nat.le_add_left 2 n) IH), fn_tidy x.F13 sc13 (fun _ _ _ => rfl) (b13 x (Nat.le_add_left 2 n) IH), fn_tidy x.F14 sc14 (fun _ _ _ => rfl) (b14 x (Nat.le_add_left 2 n) IH), fn_tidy x.F15 sc15 (fun _ _ _ => rfl) (b15 x (Nat.le_add_left 2 n) IH), fn_tidy x.F16 sc16 (fun _ _ _ => rfl) (b16 x (Nat.le_add_left 2 n) IH), fn_tidy x.F17 sc17 (fun _ _ _ => rfl) (b17 x (Nat.le_add_left 2 n) IH), fn_tidy x.F18 sc18 (fun _ _ _ => rfl) (b18 x (Nat.le_add_left 2 n) IH), fn_tidy x.F19 sc19 (fun _ _ _ => rfl) (b19 x (Nat.le_add_left 2 n) IH)⟩
end
/-! ### the head -/
def df0 : He.DefD := ⟨((PySem.Str.ofString "is_number"), none), (PySem.Str.ofString "is_number"), (PySem.Str.ofString "is_number"), defArgs (top 7), defBody (top 7), defScope (top 7), [], []⟩
def df1 : He.DefD := ⟨((PySem.Str.ofString "checked_signs"), none), (PySem.Str.ofString "checked_signs"), (PySem.Str.ofString "checked_signs"), defArgs (top 10), defBody (top 10), defScope (top 10), [], []⟩
def df2 : He.DefD := ⟨((PySem.Str.ofString "messages_of"), none), (PySem.Str.ofString "messages_of"), (PySem.Str.ofString "messages_of"), defArgs (top 11), defBody (top 11), defScope (top 11), [], []⟩
def df3 : He.DefD := ⟨((PySem.Str.ofString "messages_below"), none), (PySem.Str.ofString "messages_below"), (PySem.Str.ofString "messages_below"), defArgs (top 12), defBody (top 12), defScope (top 12), [], []⟩
def df4 : He.DefD := ⟨((PySem.Str.ofString "checked_size"), none), (PySem.Str.ofString "checked_size"), (PySem.Str.ofString "checked_size"), defArgs (top 14), defBody (top 14), defScope (top 14), [], []⟩
def df5 : He.DefD := ⟨((PySem.Str.ofString "checked_answers"), none), (PySem.Str.ofString "checked_answers"), (PySem.Str.ofString "checked_answers"), defArgs (top 15), defBody (top 15), defScope (top 15), [], []⟩
def df6 : He.DefD := ⟨((PySem.Str.ofString "asked"), none), (PySem.Str.ofString "asked"), (PySem.Str.ofString "asked"), defArgs (top 16), defBody (top 16), defScope (top 16), [], []⟩
def df7 : He.DefD := ⟨((PySem.Str.ofString "next_message"), none), (PySem.Str.ofString "next_message"), (PySem.Str.ofString "next_message"), defArgs (top 17), defBody (top 17), defScope (top 17), [], []⟩
def df8 : He.DefD := ⟨((PySem.Str.ofString "_law_well"), none), (PySem.Str.ofString "_law_well"), (PySem.Str.ofString "_law_well"), defArgs (top 19), defBody (top 19), defScope (top 19), [], []⟩
def df9 : He.DefD := ⟨((PySem.Str.ofString "_law_draw"), none), (PySem.Str.ofString "_law_draw"), (PySem.Str.ofString "_law_draw"), defArgs (top 20), defBody (top 20), defScope (top 20), [], []⟩
def df10 : He.DefD := ⟨((PySem.Str.ofString "_law_letters"), none), (PySem.Str.ofString "_law_letters"), (PySem.Str.ofString "_law_letters"), defArgs (top 21), defBody (top 21), defScope (top 21), [], []⟩
def df11 : He.DefD := ⟨((PySem.Str.ofString "_law_messages"), none), (PySem.Str.ofString "_law_messages"), (PySem.Str.ofString "_law_messages"), defArgs (top 22), defBody (top 22), defScope (top 22), [], []⟩
def df12 : He.DefD := ⟨((PySem.Str.ofString "_law_order"), none), (PySem.Str.ofString "_law_order"), (PySem.Str.ofString "_law_order"), defArgs (top 23), defBody (top 23), defScope (top 23), [], []⟩
def df13 : He.DefD := ⟨((PySem.Str.ofString "_law_some"), none), (PySem.Str.ofString "_law_some"), (PySem.Str.ofString "_law_some"), defArgs (top 24), defBody (top 24), defScope (top 24), [], []⟩
def df14 : He.DefD := ⟨((PySem.Str.ofString "_law_longer"), none), (PySem.Str.ofString "_law_longer"), (PySem.Str.ofString "_law_longer"), defArgs (top 25), defBody (top 25), defScope (top 25), [], []⟩
def df15 : He.DefD := ⟨((PySem.Str.ofString "_law_number"), none), (PySem.Str.ofString "_law_number"), (PySem.Str.ofString "_law_number"), defArgs (top 26), defBody (top 26), defScope (top 26), [], []⟩
def df16 : He.DefD := ⟨((PySem.Str.ofString "_law_listed"), none), (PySem.Str.ofString "_law_listed"), (PySem.Str.ofString "_law_listed"), defArgs (top 27), defBody (top 27), defScope (top 27), [], []⟩
def df17 : He.DefD := ⟨((PySem.Str.ofString "_law_next"), none), (PySem.Str.ofString "_law_next"), (PySem.Str.ofString "_law_next"), defArgs (top 28), defBody (top 28), defScope (top 28), [], []⟩
def df18 : He.DefD := ⟨((PySem.Str.ofString "_law_nexts"), none), (PySem.Str.ofString "_law_nexts"), (PySem.Str.ofString "_law_nexts"), defArgs (top 29), defBody (top 29), defScope (top 29), [], []⟩
def df19 : He.DefD := ⟨((PySem.Str.ofString "law"), none), (PySem.Str.ofString "law"), (PySem.Str.ofString "law"), defArgs (top 30), defBody (top 30), defScope (top 30), [], []⟩
def dfI : He.DefD := ⟨((PySem.Str.ofString "WorthError"), some (PySem.Str.ofString "__init__")), (PySem.Str.ofString "__init__"), (PySem.Str.ofString "WorthError.__init__"), defArgs (clsM (top 2)), defBody (clsM (top 2)), defScope (clsM (top 2)), [], []⟩
def dfs : List He.DefD := [df0, df1, df2, df3, df4, df5, df6, df7, df8, df9, df10, df11, df12, df13, df14, df15, df16, df17, df18, df19, dfI]
def fas : List He.Fa := [.glo (PySem.Str.ofString "is_number"), .glo (PySem.Str.ofString "checked_signs"), .glo (PySem.Str.ofString "messages_of"), .glo (PySem.Str.ofString "messages_below"), .glo (PySem.Str.ofString "checked_size"), .glo (PySem.Str.ofString "checked_answers"), .glo (PySem.Str.ofString "asked"), .glo (PySem.Str.ofString "next_message"), .glo (PySem.Str.ofString "_law_well"), .glo (PySem.Str.ofString "_law_draw"), .glo (PySem.Str.ofString "_law_letters"), .glo (PySem.Str.ofString "_law_messages"), .glo (PySem.Str.ofString "_law_order"), .glo (PySem.Str.ofString "_law_some"), .glo (PySem.Str.ofString "_law_longer"), .glo (PySem.Str.ofString "_law_number"), .glo (PySem.Str.ofString "_law_listed"), .glo (PySem.Str.ofString "_law_next"), .glo (PySem.Str.ofString "_law_nexts"), .glo (PySem.Str.ofString "law"), .glo (PySem.Str.ofString "WorthError"), .glo (PySem.Str.ofString "InvalidNumber"), .glo (PySem.Str.ofString "InvalidSigns"), .glo (PySem.Str.ofString "InvalidNote"), .free (PySem.Str.ofString "ValueError"), .free (PySem.Str.ofString "abs"), .free (PySem.Str.ofString "all"), .free (PySem.Str.ofString "dict"), .free (PySem.Str.ofString "int"), .free (PySem.Str.ofString "isinstance"), .free (PySem.Str.ofString "len"), .free (PySem.Str.ofString "list"), .free (PySem.Str.ofString "max"), .free (PySem.Str.ofString "min"), .free (PySem.Str.ofString "range"), .free (PySem.Str.ofString "sorted"), .free (PySem.Str.ofString "str")]
def fx (K : PySem.W.Frag) : Bool := (excB K (ca K) anc (He.ma K (He.ga K (PySem.Str.ofString "WorthError")) (PySem.Str.ofString "__init__")) && (bltB K (PySem.Str.ofString "gcd") "math.gcd" && ((He.Fa.str (PySem.Str.ofString "LETTERS") (PySem.Str.ofString "abcdefghijklmnopqrstuvwxyz")).ok K && true)))
abbrev R : PySem.W.OpenRow := PySem.W.OpenLaw.row PySem.Challenge.rw_wholerates_k73_messages_that_are_asked
abbrev hk : PySem.W.Hook := hookX 6 fas dfs fx
def ob (s : PySem.W.SharedT) : AlX := obsXG 6 fas dfs fx (HandSHeadRun.getT s)
theorem ob_eq (s : PySem.W.SharedT) : ob s = hk.obs s.abs := obsXG_eq (HandSHeadRun.getT_eq s)
def loose0 : List Str := [(PySem.Str.ofString "WorthError"), (PySem.Str.ofString "InvalidNumber"), (PySem.Str.ofString "InvalidSigns"), (PySem.Str.ofString "InvalidNote"), (PySem.Str.ofString "is_number"), (PySem.Str.ofString "LETTERS"), (PySem.Str.ofString "checked_signs"), (PySem.Str.ofString "messages_of"), (PySem.Str.ofString "messages_below"), (PySem.Str.ofString "checked_size"), (PySem.Str.ofString "checked_answers"), (PySem.Str.ofString "asked"), (PySem.Str.ofString "next_message"), (PySem.Str.ofString "_law_well"), (PySem.Str.ofString "_law_draw"), (PySem.Str.ofString "_law_letters"), (PySem.Str.ofString "_law_messages"), (PySem.Str.ofString "_law_order"), (PySem.Str.ofString "_law_some"), (PySem.Str.ofString "_law_longer"), (PySem.Str.ofString "_law_number"), (PySem.Str.ofString "_law_listed"), (PySem.Str.ofString "_law_next"), (PySem.Str.ofString "_law_nexts")]
abbrev loose : List Str := loose0
theorem run (w : World) : HandSHeadRun.RunEqI R (PySem.W.view R.prog [0, 30]) hk ob 60000 loose w := by
  unfold HandSHeadRun.RunEqI
  kernel_rfl
theorem ctx {K : PySem.W.Frag} {h : Heap} {mg : Str → Option Value} (X : K.In h) (G : h.Ns mainGlobals mg) (c : SaysX fas dfs fx K) : Nonempty (Ctx K mg) := by
  obtain ⟨fd0, F0⟩ := c.d.def_ 0 (d := df0) rfl
  obtain ⟨fd1, F1⟩ := c.d.def_ 1 (d := df1) rfl
  obtain ⟨fd2, F2⟩ := c.d.def_ 2 (d := df2) rfl
  obtain ⟨fd3, F3⟩ := c.d.def_ 3 (d := df3) rfl
  obtain ⟨fd4, F4⟩ := c.d.def_ 4 (d := df4) rfl
  obtain ⟨fd5, F5⟩ := c.d.def_ 5 (d := df5) rfl
  obtain ⟨fd6, F6⟩ := c.d.def_ 6 (d := df6) rfl
  obtain ⟨fd7, F7⟩ := c.d.def_ 7 (d := df7) rfl
  obtain ⟨fd8, F8⟩ := c.d.def_ 8 (d := df8) rfl
  obtain ⟨fd9, F9⟩ := c.d.def_ 9 (d := df9) rfl
  obtain ⟨fd10, F10⟩ := c.d.def_ 10 (d := df10) rfl
  obtain ⟨fd11, F11⟩ := c.d.def_ 11 (d := df11) rfl
  obtain ⟨fd12, F12⟩ := c.d.def_ 12 (d := df12) rfl
  obtain ⟨fd13, F13⟩ := c.d.def_ 13 (d := df13) rfl
  obtain ⟨fd14, F14⟩ := c.d.def_ 14 (d := df14) rfl
  obtain ⟨fd15, F15⟩ := c.d.def_ 15 (d := df15) rfl
  obtain ⟨fd16, F16⟩ := c.d.def_ 16 (d := df16) rfl
  obtain ⟨fd17, F17⟩ := c.d.def_ 17 (d := df17) rfl
  obtain ⟨fd18, F18⟩ := c.d.def_ 18 (d := df18) rfl
  obtain ⟨fd19, F19⟩ := c.d.def_ 19 (d := df19) rfl
  obtain ⟨fdI, FI⟩ := c.d.def_ 20 (d := dfI) rfl
  have hx := c.x
  unfold fx at hx
  obtain ⟨x0, hx⟩ := Bool.and_eq_true_iff.mp hx
  obtain ⟨x1, hx⟩ := Bool.and_eq_true_iff.mp hx
  obtain ⟨x2, hx⟩ := Bool.and_eq_true_iff.mp hx
  obtain ⟨C, ex, tI⟩ := excB_ok x0
  exact ⟨{ C := C,
            fI := _,
            fdI := fdI,
            ex := ex,
            tI := tI,
            FI := FI,
            fd0 := fd0,
            F0 := F0,
            g_is_number := He.glo_ok X G (c.d.fact 0 (f := .glo (PySem.Str.ofString "is_number")) rfl),
            fd1 := fd1,
            F1 := F1,
            g_checked_signs := He.glo_ok X G (c.d.fact 1 (f := .glo (PySem.Str.ofString "checked_signs")) rfl),
            fd2 := fd2,
            F2 := F2,
            g_messages_of := He.glo_ok X G (c.d.fact 2 (f := .glo (PySem.Str.ofString "messages_of")) rfl),
            fd3 := fd3,
            F3 := F3,
            g_messages_below := He.glo_ok X G (c.d.fact 3 (f := .glo (PySem.Str.ofString "messages_below")) rfl),
            fd4 := fd4,
            F4 := F4,
            g_checked_size := He.glo_ok X G (c.d.fact 4 (f := .glo (PySem.Str.ofString "checked_size")) rfl),
            fd5 := fd5,
            F5 := F5,
            g_checked_answers := He.glo_ok X G (c.d.fact 5 (f := .glo (PySem.Str.ofString "checked_answers")) rfl),
            fd6 := fd6,
            F6 := F6,
            g_asked := He.glo_ok X G (c.d.fact 6 (f := .glo (PySem.Str.ofString "asked")) rfl),
            fd7 := fd7,
            F7 := F7,
            g_next_message := He.glo_ok X G (c.d.fact 7 (f := .glo (PySem.Str.ofString "next_message")) rfl),
            fd8 := fd8,
            F8 := F8,
            g__law_well := He.glo_ok X G (c.d.fact 8 (f := .glo (PySem.Str.ofString "_law_well")) rfl),
            fd9 := fd9,
            F9 := F9,
            g__law_draw := He.glo_ok X G (c.d.fact 9 (f := .glo (PySem.Str.ofString "_law_draw")) rfl),
            fd10 := fd10,
            F10 := F10,
            g__law_letters := He.glo_ok X G (c.d.fact 10 (f := .glo (PySem.Str.ofString "_law_letters")) rfl),
            fd11 := fd11,
            F11 := F11,
            g__law_messages := He.glo_ok X G (c.d.fact 11 (f := .glo (PySem.Str.ofString "_law_messages")) rfl),
            fd12 := fd12,
            F12 := F12,
            g__law_order := He.glo_ok X G (c.d.fact 12 (f := .glo (PySem.Str.ofString "_law_order")) rfl),
            fd13 := fd13,
            F13 := F13,
            g__law_some := He.glo_ok X G (c.d.fact 13 (f := .glo (PySem.Str.ofString "_law_some")) rfl),
            fd14 := fd14,
            F14 := F14,
            g__law_longer := He.glo_ok X G (c.d.fact 14 (f := .glo (PySem.Str.ofString "_law_longer")) rfl),
            fd15 := fd15,
            F15 := F15,
            g__law_number := He.glo_ok X G (c.d.fact 15 (f := .glo (PySem.Str.ofString "_law_number")) rfl),
            fd16 := fd16,
            F16 := F16,
            g__law_listed := He.glo_ok X G (c.d.fact 16 (f := .glo (PySem.Str.ofString "_law_listed")) rfl),
            fd17 := fd17,
            F17 := F17,
            g__law_next := He.glo_ok X G (c.d.fact 17 (f := .glo (PySem.Str.ofString "_law_next")) rfl),
            fd18 := fd18,
            F18 := F18,
            g__law_nexts := He.glo_ok X G (c.d.fact 18 (f := .glo (PySem.Str.ofString "_law_nexts")) rfl),
            fd19 := fd19,
            F19 := F19,
            g_law := He.glo_ok X G (c.d.fact 19 (f := .glo (PySem.Str.ofString "law")) rfl),
            i_gcd := bltB_ok X G x1,
            g_WorthError := He.glo_ok X G (c.d.fact 20 (f := .glo (PySem.Str.ofString "WorthError")) rfl),
            g_InvalidNumber := He.glo_ok X G (c.d.fact 21 (f := .glo (PySem.Str.ofString "InvalidNumber")) rfl),
            g_InvalidSigns := He.glo_ok X G (c.d.fact 22 (f := .glo (PySem.Str.ofString "InvalidSigns")) rfl),
            g_InvalidNote := He.glo_ok X G (c.d.fact 23 (f := .glo (PySem.Str.ofString "InvalidNote")) rfl),
            b_ValueError := He.free_ok X G (c.d.fact 24 (f := .free (PySem.Str.ofString "ValueError")) rfl),
            b_abs := He.free_ok X G (c.d.fact 25 (f := .free (PySem.Str.ofString "abs")) rfl),
            b_all := He.free_ok X G (c.d.fact 26 (f := .free (PySem.Str.ofString "all")) rfl),
            b_dict := He.free_ok X G (c.d.fact 27 (f := .free (PySem.Str.ofString "dict")) rfl),
            b_int := He.free_ok X G (c.d.fact 28 (f := .free (PySem.Str.ofString "int")) rfl),
            b_isinstance := He.free_ok X G (c.d.fact 29 (f := .free (PySem.Str.ofString "isinstance")) rfl),
            b_len := He.free_ok X G (c.d.fact 30 (f := .free (PySem.Str.ofString "len")) rfl),
            b_list := He.free_ok X G (c.d.fact 31 (f := .free (PySem.Str.ofString "list")) rfl),
            b_max := He.free_ok X G (c.d.fact 32 (f := .free (PySem.Str.ofString "max")) rfl),
            b_min := He.free_ok X G (c.d.fact 33 (f := .free (PySem.Str.ofString "min")) rfl),
            b_range := He.free_ok X G (c.d.fact 34 (f := .free (PySem.Str.ofString "range")) rfl),
            b_sorted := He.free_ok X G (c.d.fact 35 (f := .free (PySem.Str.ofString "sorted")) rfl),
            b_str := He.free_ok X G (c.d.fact 36 (f := .free (PySem.Str.ofString "str")) rfl),
            vV := by rfl,
            k_LETTERS := glo_str X G x2 }⟩
/-! ### the law holds, if what is computed is True -/
theorem holds_of (m : Nat) (hr : Room (m + 2) callerA) (hlaw : ∀ ns : List Int, ns.length ≤ 63 → ∃ S, calls m 19 [.fls ns] [] = .ok (.bl true) S) : PySem.Challenge.rw_wholerates_k73_messages_that_are_asked.Holds := by
  w_on; o_law
  refine HandSHeadRun.head_imp (r := R) (q := PySem.W.view R.prog [0, 30]) (H := hk) (ob := ob) (M := 60000) (loose := loose) (d := HandSHeadRun.topDef R.prog 30) (kwd := []) ob_eq
    run (by kernel_rfl) (by kernel_rfl) (by kernel_rfl) (by rfl) (by first | assumption | decide +kernel) (by decide +kernel) ⟨rfl, rfl, rfl, rfl, rfl, by decide +kernel⟩ ?hw ?hc
  case hw => w_witness2
  case hc =>
    refine L2.walk_ofE (l := PySem.Challenge.rw_wholerates_k73_messages_that_are_asked) (n := 63) (k := m + 2) (x := PySem.Str.ofString "script") (CX := CX0) rfl (by decide) (by kernel_rfl) hr ?F (fun _ _ _ _ z => z)
    intro w mg fa h Y G hmg0
    obtain ⟨K, KX, c⟩ := Y
    have hmg : mg (PySem.Str.ofString "law") = some (.ref fa) := by
      have e : (HandSHeadRun.topDef R.prog 30).name = PySem.Str.ofString "law" := by kernel_rfl
      rw [← e]
      exact hmg0
    obtain ⟨x⟩ := ctx KX G c
    have e := hmg.symm.trans x.g_law
    cases e
    have b := FunD.bindsA (ps := P19) x.F19 fun _ _ _ _ _ _ us hl => match us, hl with | [_], _ => rfl
    exact ⟨K, x.fd19, _, KX, fun s v => b s [v] rfl, fun H a ns hl hO hS => (by obtain ⟨S, q⟩ := hlaw ns hl; exact law_sp (ca := ca K) hO hS q), fun base _ _ => fn_cx0 (all x m).f19⟩
end K73

set_option maxHeartbeats 4000000
namespace K73
open Py
open PySem (Str sizeLine)
open TL (tl)
variable {n : Nat} {S : Store} {Γ : Calls} {cs : List Nat}
/-! ### texts -/
abbrev sx (l : List Nat) : Str := ⟨l.toArray⟩
def dm (l : List Nat) : D := .str (sx l)
theorem tl_mk {l : List Nat} : tl (sx l) = l := rfl
theorem mk_len {l : List Nat} : (sx l).length = l.length := by rw [len_tl]
theorem mk_tl {x : Str} : sx (tl x) = x := TL.ext_tl rfl
theorem mk_app {a b : List Nat} : sx a ++ sx b = sx (a ++ b) := TL.ext_tl (by rw [TL.tl_append])
theorem mk_inj {a b : List Nat} : sx a = sx b ↔ a = b := ⟨fun h => by rw [← tl_mk (l := a), h], fun h => by rw [h]⟩
theorem signs_mk {l : List Nat} : signs (sx l) = l.map sgn := rfl
theorem sgn_dm {c : Nat} : sgn c = dm [c] := rfl
theorem no_dm {l : List (List Nat)} : noRefL (l.map dm) = true := by
  induction l with
  | nil => rfl
  | cons a l ih => rw [List.map_cons]; unfold noRefL; rw [ih]; rfl
theorem isStrs_dm {l : List (List Nat)} : isStrs (l.map dm) = some (l.map sx) := by
  induction l with
  | nil => rfl
  | cons a l ih => show (isStrs (l.map dm)).map (sx a :: ·) = _; rw [ih]; rfl
/-! ### the messages -/
def lv (cs : List Nat) : Nat → List (List Nat)
  | 0 => [[]]
  | k + 1 => (lv cs k).flatMap fun h => cs.map fun c => h ++ [c]
def bl (cs : List Nat) : Nat → List (List Nat)
  | 0 => []
  | n + 1 => bl cs n ++ lv cs n
theorem lv_mem : ∀ {k : Nat} {m : List Nat}, m ∈ lv cs k → m.length = k ∧ ∀ c ∈ m, c ∈ cs
  | 0, m, h => by
    have : m = [] := by simpa [lv] using h
    subst this
    exact ⟨rfl, fun c hc => by cases hc⟩
  | k + 1, m, h => by
    unfold lv at h
    obtain ⟨a, ha, h⟩ := List.mem_flatMap.mp h
    obtain ⟨c, hc, rfl⟩ := List.mem_map.mp h
    obtain ⟨h1, h2⟩ := lv_mem ha
    refine ⟨by rw [List.length_append, h1]; rfl, fun x hx => ?_⟩
    rcases List.mem_append.mp hx with hx | hx
    · exact h2 x hx
    · rw [List.mem_singleton] at hx; rw [hx]; exact hc
theorem flat_len {α β : Type} {k : Nat} {f : α → List β} : ∀ {l : List α}, (∀ a ∈ l, (f a).length = k) → (l.flatMap f).length = l.length * k
  | [], _ => by simp
  | a :: l, h => by
    rw [List.flatMap_cons, List.length_append, h a List.mem_cons_self, flat_len fun b hb => h b (List.mem_cons_of_mem _ hb), List.length_cons, Nat.succ_mul]
    omega
theorem lv_len : ∀ {k : Nat}, (lv cs k).length = cs.length ^ k
  | 0 => rfl
  | k + 1 => by
    unfold lv
    rw [flat_len (k := cs.length) fun a _ => by rw [List.length_map], lv_len, Nat.pow_succ]
theorem nodup_flat {α β : Type} {f : α → List β} : ∀ {l : List α}, l.Nodup → (∀ a ∈ l, (f a).Nodup) → (∀ a ∈ l, ∀ b ∈ l, ∀ x, x ∈ f a → x ∈ f b → a = b) → (l.flatMap f).Nodup
  | [], _, _, _ => List.nodup_nil
  | a :: l, h, h1, h2 => by
    rw [List.flatMap_cons, List.nodup_append]
    rw [List.nodup_cons] at h
    refine ⟨h1 a List.mem_cons_self, nodup_flat h.2 (fun b hb => h1 b (List.mem_cons_of_mem _ hb)) fun b hb c hc => h2 b (List.mem_cons_of_mem _ hb) c (List.mem_cons_of_mem _ hc), ?_⟩
    intro x hx y hy e
    subst e
    obtain ⟨b, hb, hx2⟩ := List.mem_flatMap.mp hy
    have := h2 a List.mem_cons_self b (List.mem_cons_of_mem _ hb) x hx hx2
    subst this
    exact h.1 hb
theorem lv_nodup (h : cs.Nodup) : ∀ {k : Nat}, (lv cs k).Nodup
  | 0 => by simp [lv]
  | k + 1 => by
    unfold lv
    refine nodup_flat (lv_nodup h) (fun a _ => ?_) fun a ha b hb x hx hy => ?_
    · refine List.Pairwise.map _ (fun c d hne e => hne ?_) h
      simpa using e
    · obtain ⟨c, _, rfl⟩ := List.mem_map.mp hx
      obtain ⟨d, _, e⟩ := List.mem_map.mp hy
      exact (List.append_inj' e rfl).1.symm
theorem bl_mem : ∀ {n : Nat} {m : List Nat}, m ∈ bl cs n → m.length < n ∧ ∀ c ∈ m, c ∈ cs
  | 0, m, h => by cases h
  | n + 1, m, h => by
    unfold bl at h
    rcases List.mem_append.mp h with h | h
    · obtain ⟨h1, h2⟩ := bl_mem h; exact ⟨by omega, h2⟩
    · obtain ⟨h1, h2⟩ := lv_mem h; exact ⟨by omega, h2⟩
theorem bl_nodup (h : cs.Nodup) : ∀ {n : Nat}, (bl cs n).Nodup
  | 0 => List.nodup_nil
  | n + 1 => by
    unfold bl
    rw [List.nodup_append]
    refine ⟨bl_nodup h, lv_nodup h, fun x hx y hy e => ?_⟩
    subst e
    have h1 := (bl_mem hx).1
    have h2 := (lv_mem hy).1
    omega
/-- the messages are not too many -/
structure Sz (cs : List Nat) (n : Nat) : Prop where
  n17 : n ≤ 17
  pw : ∀ k, k ≤ n → cs.length ^ k ≤ 729
theorem Sz.lv {n k : Nat} (h : Sz cs n) (hk : k ≤ n) : (lv cs k).length ≤ 729 := by rw [lv_len]; exact h.pw k hk
theorem Sz.bl {n : Nat} (h : Sz cs n) : ∀ {k : Nat}, k ≤ n → (bl cs k).length ≤ 729 * k
  | 0, _ => by simp [K73.bl]
  | k + 1, hk => by
    have := h.bl (k := k) (by omega)
    have h2 := h.lv (k := k) (by omega)
    unfold K73.bl
    rw [List.length_append]
    omega
theorem Sz.cs1 {n : Nat} (h : Sz cs n) : cs.length ≤ 729 ∨ n = 0 := by
  by_cases h0 : n = 0
  · exact .inr h0
  · exact .inl (by have := h.pw 1 (by omega); simpa using this)
/-- letters that go up -/
structure Ls (cs : List Nat) : Prop where
  ne : cs ≠ []
  len : cs.length ≤ 3
  up : cs.Pairwise (· < ·)
  az : ∀ c ∈ cs, 97 ≤ c ∧ c ≤ 122
theorem Ls.nodup (h : Ls cs) : cs.Nodup := h.up.imp fun h => Nat.ne_of_lt h
/-- a text of such letters -/
def Tx (cs : List Nat) (L : Nat) (m : List Nat) : Prop := m.length ≤ L ∧ ∀ c ∈ m, c ∈ cs
theorem Tx.okx {L : Nat} {m : List Nat} (h : Tx cs L m) (hc : Ls cs) : OkX L (sx m) := .of (fun c hm => by have := hc.az c (h.2 c hm); omega) h.1
theorem Ls.okx (h : Ls cs) : OkX 3 (sx cs) := .of (fun c hc => by have := h.az c hc; omega) h.len
def exD (cs : List Nat) : D → List D := fun d => match d with | .str x => cs.map fun c => dm (tl x ++ [c]) | _ => []
theorem exD_lv {i : Nat} : ((lv cs i).map dm).flatMap (exD cs) = (lv cs (i + 1)).map dm := by
  conv => rhs; unfold lv
  rw [List.flatMap_map, List.map_flatMap]
  refine congrArg (fun z => List.flatMap z (lv cs i)) (funext fun m => ?_)
  rw [List.map_map]; rfl
/-- messages_of -/
theorem of_ok {n k : Nat} (h : Sz cs n) (hk : k ≤ n) (hc : cs.length ≤ 3) : OkR (runBody (d2 Γ) 6 [.str (sx cs), .int (k : Nat)] S) (fun d S' => d = .lst ((lv cs k).map dm) ∧ S' = S) := by
  refine ⟨?_⟩
  have hn := h.n17
  unfold d2
  rw [Sat_body]; simp -implicitDefEqProofs only [List.map_cons, List.map_nil, List.length_cons, List.length_nil, List.replicate, List.cons_append, List.nil_append]
  try simp -implicitDefEqProofs only [Sat_ok, Sat_err, Sat_bad, Sat_bind, Sat_ite, W_var, W_vars, W_c, W_nil, W_cons, W_tup, W_lst, W_new, W_bin, W_un, W_fn, W_dfn, W_call, W_callP, W_if, W_isi, W_val, W_setI, W_app, W_pop, W_popAt, W_ins, W_augI, andK_b, orK_b, W_and, W_or, notK_b, W_not, boolK_b, W_tval, W_tnot, W_tand, W_tor, W_tyes, W_mul, W_mod, W_fdiv, W_pow, W_idxT, W_idxL, Sx_next, Sx_seq, Sx_pass, Sx_expr, Sx_set, Sx_ret, Sx_retN, Sx_brk, Sx_cont, Sx_raise, Sx_if, Sx_ite, Sx_par, Sx_par3, Sx_asg, Sx_for, outK_ret, outK_err, outK_brk, outK_cont, loopK_ret, loopK_err, loopK_brk, loopK_cont, W_rng1, rngK_i, W_rng2, rngK2_i, W_seq, seqK_t, seqK_l, W_enumA, enumK_t, enumK_l, W_zip2, oCat_i, oSub_i, oNeg_i, oLt_i, oLe_i, oGt_i, oGe_i, oInt_i, oAbs_i, oMax2_i, oMin2_i, oGcd_i, oIsN_ap, oNotN_ap, oEq_i, oNe_i, oNe_b, oEq_b, gTup_ap, gAll_cons, gNm_ap, gAll_nil, List.set, decide_eq_true_eq, decide_eq_false_iff_not, if_true, if_false, Bool.not_eq_true, Bool.not_eq_true', Bool.false_eq_true, true_and, and_true, Option.some.injEq, exists_eq_left', exists_eq_left, beq_iff_eq, beq_eq_false_iff_ne, optR_some, R.bind, W_lc, atI_c0, atI_c1, atI_c2, Sx_try, tryK_ret, tryK_brk, tryK_cont, offK_ret, offK_brk, offK_cont, Bool.not_true, Bool.not_false, Bool.true_eq_false, not_true_eq_false, not_false_eq_true, true_implies, false_implies, implies_true, Bool.or_false, Bool.or_true, Bool.and_true, Bool.and_false, Bool.true_and, Bool.false_and, Bool.true_or, Bool.false_or, W_str1, strK_s, W_dstr1, strKF_s, st_starts, W_seqS, seqSK_s, W_sl, W_oPart, W_oNo, partK_i, decide_true, decide_false, in_sgn]
  refine ⟨inR_of (by omega) (by omega), ?_⟩
  refine Sx_rng k (Int.toNat_natCast _) (fun i e U => U = S ∧ ∃ a b c, e = [some (.str (sx cs)), some (.int (k : Nat)), some (.lst ((lv cs i).map dm)), a, b, c]) ⟨rfl, none, none, none, rfl⟩ ?_ ?_
  · rintro i e U hi ⟨rfl, a, b, c, rfl⟩
    simp -implicitDefEqProofs only [Sat_ok, Sat_err, Sat_bad, Sat_bind, Sat_ite, W_var, W_vars, W_c, W_nil, W_cons, W_tup, W_lst, W_new, W_bin, W_un, W_fn, W_dfn, W_call, W_callP, W_if, W_isi, W_val, W_setI, W_app, W_pop, W_popAt, W_ins, W_augI, andK_b, orK_b, W_and, W_or, notK_b, W_not, boolK_b, W_tval, W_tnot, W_tand, W_tor, W_tyes, W_mul, W_mod, W_fdiv, W_pow, W_idxT, W_idxL, Sx_next, Sx_seq, Sx_pass, Sx_expr, Sx_set, Sx_ret, Sx_retN, Sx_brk, Sx_cont, Sx_raise, Sx_if, Sx_ite, Sx_par, Sx_par3, Sx_asg, Sx_for, outK_ret, outK_err, outK_brk, outK_cont, loopK_ret, loopK_err, loopK_brk, loopK_cont, W_rng1, rngK_i, W_rng2, rngK2_i, W_seq, seqK_t, seqK_l, W_enumA, enumK_t, enumK_l, W_zip2, oCat_i, oSub_i, oNeg_i, oLt_i, oLe_i, oGt_i, oGe_i, oInt_i, oAbs_i, oMax2_i, oMin2_i, oGcd_i, oIsN_ap, oNotN_ap, oEq_i, oNe_i, oNe_b, oEq_b, gTup_ap, gAll_cons, gNm_ap, gAll_nil, List.set, decide_eq_true_eq, decide_eq_false_iff_not, if_true, if_false, Bool.not_eq_true, Bool.not_eq_true', Bool.false_eq_true, true_and, and_true, Option.some.injEq, exists_eq_left', exists_eq_left, beq_iff_eq, beq_eq_false_iff_ne, optR_some, R.bind, W_lc, atI_c0, atI_c1, atI_c2, Sx_try, tryK_ret, tryK_brk, tryK_cont, offK_ret, offK_brk, offK_cont, Bool.not_true, Bool.not_false, Bool.true_eq_false, not_true_eq_false, not_false_eq_true, true_implies, false_implies, implies_true, Bool.or_false, Bool.or_true, Bool.and_true, Bool.and_false, Bool.true_and, Bool.false_and, Bool.true_or, Bool.false_or, W_str1, strK_s, W_dstr1, strKF_s, st_starts, W_seqS, seqSK_s, W_sl, W_oPart, W_oNo, partK_i, decide_true, decide_false, in_sgn, W_lc2]
    refine Sat_lc2P (exD cs) ?_ (by rw [exD_lv]; exact no_dm) ?_ ?_
    · intro x hx T
      obtain ⟨m, hm, rfl⟩ := List.mem_map.mp hx
      have hm1 := (lv_mem hm).1
      refine ⟨_, rfl, cs.map sgn, fun y => match y with | .str z => .str (sx m ++ z) | _ => .non, rfl, ?_, ?_⟩
      · rw [List.map_map]
        refine List.map_congr_left fun c _ => ?_
        show dm (m ++ [c]) = .str (sx m ++ sx [c])
        rw [mk_app]; rfl
      · intro y hy T'
        obtain ⟨c, _, rfl⟩ := List.mem_map.mp hy
        refine ⟨_, rfl, ?_⟩
        show Sat (oCat (.str (sx m)) (.str (sx [c])) _) _ _
        rw [add_s (by rw [mk_len, mk_len, hm1]; simp; omega)]
        exact ⟨rfl, rfl⟩
    · rw [exD_lv, List.length_map]
      have := h.lv (k := i + 1) (by omega)
      omega
    · rw [exD_lv]
      exact ⟨rfl, _, _, _, rfl⟩
  · rintro e U ⟨rfl, a, b, c, rfl⟩
    try simp -implicitDefEqProofs only [Sat_ok, Sat_err, Sat_bad, Sat_bind, Sat_ite, W_var, W_vars, W_c, W_nil, W_cons, W_tup, W_lst, W_new, W_bin, W_un, W_fn, W_dfn, W_call, W_callP, W_if, W_isi, W_val, W_setI, W_app, W_pop, W_popAt, W_ins, W_augI, andK_b, orK_b, W_and, W_or, notK_b, W_not, boolK_b, W_tval, W_tnot, W_tand, W_tor, W_tyes, W_mul, W_mod, W_fdiv, W_pow, W_idxT, W_idxL, Sx_next, Sx_seq, Sx_pass, Sx_expr, Sx_set, Sx_ret, Sx_retN, Sx_brk, Sx_cont, Sx_raise, Sx_if, Sx_ite, Sx_par, Sx_par3, Sx_asg, Sx_for, outK_ret, outK_err, outK_brk, outK_cont, loopK_ret, loopK_err, loopK_brk, loopK_cont, W_rng1, rngK_i, W_rng2, rngK2_i, W_seq, seqK_t, seqK_l, W_enumA, enumK_t, enumK_l, W_zip2, oCat_i, oSub_i, oNeg_i, oLt_i, oLe_i, oGt_i, oGe_i, oInt_i, oAbs_i, oMax2_i, oMin2_i, oGcd_i, oIsN_ap, oNotN_ap, oEq_i, oNe_i, oNe_b, oEq_b, gTup_ap, gAll_cons, gNm_ap, gAll_nil, List.set, decide_eq_true_eq, decide_eq_false_iff_not, if_true, if_false, Bool.not_eq_true, Bool.not_eq_true', Bool.false_eq_true, true_and, and_true, Option.some.injEq, exists_eq_left', exists_eq_left, beq_iff_eq, beq_eq_false_iff_ne, optR_some, R.bind, W_lc, atI_c0, atI_c1, atI_c2, Sx_try, tryK_ret, tryK_brk, tryK_cont, offK_ret, offK_brk, offK_cont, Bool.not_true, Bool.not_false, Bool.true_eq_false, not_true_eq_false, not_false_eq_true, true_implies, false_implies, implies_true, Bool.or_false, Bool.or_true, Bool.and_true, Bool.and_false, Bool.true_and, Bool.false_and, Bool.true_or, Bool.false_or, W_str1, strK_s, W_dstr1, strKF_s, st_starts, W_seqS, seqSK_s, W_sl, W_oPart, W_oNo, partK_i, decide_true, decide_false, in_sgn]
/-- messages_below -/
theorem below_ok {n : Nat} (h : Sz cs n) (hΓ : ∀ k, k ≤ n → ∀ S, Γ 2 [.str (sx cs), .int (k : Nat)] S = .ok (.lst ((lv cs k).map dm)) S) :
    OkR (runBody (d3 Γ) 4 [.str (sx cs), .int (n : Nat)] S) (fun d S' => d = .ref S.length ∧ S' = S ++ [.lst ((bl cs n).map dm)]) := by
  refine ⟨?_⟩
  have hn := h.n17
  unfold d3
  rw [Sat_body]; simp -implicitDefEqProofs only [List.map_cons, List.map_nil, List.length_cons, List.length_nil, List.replicate, List.cons_append, List.nil_append]
  try simp -implicitDefEqProofs only [Sat_ok, Sat_err, Sat_bad, Sat_bind, Sat_ite, W_var, W_vars, W_c, W_nil, W_cons, W_tup, W_lst, W_new, W_bin, W_un, W_fn, W_dfn, W_call, W_callP, W_if, W_isi, W_val, W_setI, W_app, W_pop, W_popAt, W_ins, W_augI, andK_b, orK_b, W_and, W_or, notK_b, W_not, boolK_b, W_tval, W_tnot, W_tand, W_tor, W_tyes, W_mul, W_mod, W_fdiv, W_pow, W_idxT, W_idxL, Sx_next, Sx_seq, Sx_pass, Sx_expr, Sx_set, Sx_ret, Sx_retN, Sx_brk, Sx_cont, Sx_raise, Sx_if, Sx_ite, Sx_par, Sx_par3, Sx_asg, Sx_for, outK_ret, outK_err, outK_brk, outK_cont, loopK_ret, loopK_err, loopK_brk, loopK_cont, W_rng1, rngK_i, W_rng2, rngK2_i, W_seq, seqK_t, seqK_l, W_enumA, enumK_t, enumK_l, W_zip2, oCat_i, oSub_i, oNeg_i, oLt_i, oLe_i, oGt_i, oGe_i, oInt_i, oAbs_i, oMax2_i, oMin2_i, oGcd_i, oIsN_ap, oNotN_ap, oEq_i, oNe_i, oNe_b, oEq_b, gTup_ap, gAll_cons, gNm_ap, gAll_nil, List.set, decide_eq_true_eq, decide_eq_false_iff_not, if_true, if_false, Bool.not_eq_true, Bool.not_eq_true', Bool.false_eq_true, true_and, and_true, Option.some.injEq, exists_eq_left', exists_eq_left, beq_iff_eq, beq_eq_false_iff_ne, optR_some, R.bind, W_lc, atI_c0, atI_c1, atI_c2, Sx_try, tryK_ret, tryK_brk, tryK_cont, offK_ret, offK_brk, offK_cont, Bool.not_true, Bool.not_false, Bool.true_eq_false, not_true_eq_false, not_false_eq_true, true_implies, false_implies, implies_true, Bool.or_false, Bool.or_true, Bool.and_true, Bool.and_false, Bool.true_and, Bool.false_and, Bool.true_or, Bool.false_or, W_str1, strK_s, W_dstr1, strKF_s, st_starts, W_seqS, seqSK_s, W_sl, W_oPart, W_oNo, partK_i, decide_true, decide_false, in_sgn]
  refine ⟨inR_of (by omega) (by omega), ?_⟩
  refine Sx_rng n (Int.toNat_natCast _) (fun i e U => U = S ++ [.lst ((bl cs i).map dm)] ∧ ∃ a, e = [some (.str (sx cs)), some (.int (n : Nat)), some (.ref S.length), a]) ⟨rfl, none, rfl⟩ ?_ ?_
  · rintro i e U hi ⟨rfl, a, rfl⟩
    have h1 := h.bl (k := i) (by omega)
    have h2 := h.lv (k := i) (by omega)
    simp -implicitDefEqProofs only [Sat_ok, Sat_err, Sat_bad, Sat_bind, Sat_ite, W_var, W_vars, W_c, W_nil, W_cons, W_tup, W_lst, W_new, W_bin, W_un, W_fn, W_dfn, W_call, W_callP, W_if, W_isi, W_val, W_setI, W_app, W_pop, W_popAt, W_ins, W_augI, andK_b, orK_b, W_and, W_or, notK_b, W_not, boolK_b, W_tval, W_tnot, W_tand, W_tor, W_tyes, W_mul, W_mod, W_fdiv, W_pow, W_idxT, W_idxL, Sx_next, Sx_seq, Sx_pass, Sx_expr, Sx_set, Sx_ret, Sx_retN, Sx_brk, Sx_cont, Sx_raise, Sx_if, Sx_ite, Sx_par, Sx_par3, Sx_asg, Sx_for, outK_ret, outK_err, outK_brk, outK_cont, loopK_ret, loopK_err, loopK_brk, loopK_cont, W_rng1, rngK_i, W_rng2, rngK2_i, W_seq, seqK_t, seqK_l, W_enumA, enumK_t, enumK_l, W_zip2, oCat_i, oSub_i, oNeg_i, oLt_i, oLe_i, oGt_i, oGe_i, oInt_i, oAbs_i, oMax2_i, oMin2_i, oGcd_i, oIsN_ap, oNotN_ap, oEq_i, oNe_i, oNe_b, oEq_b, gTup_ap, gAll_cons, gNm_ap, gAll_nil, List.set, decide_eq_true_eq, decide_eq_false_iff_not, if_true, if_false, Bool.not_eq_true, Bool.not_eq_true', Bool.false_eq_true, true_and, and_true, Option.some.injEq, exists_eq_left', exists_eq_left, beq_iff_eq, beq_eq_false_iff_ne, optR_some, R.bind, W_lc, atI_c0, atI_c1, atI_c2, Sx_try, tryK_ret, tryK_brk, tryK_cont, offK_ret, offK_brk, offK_cont, Bool.not_true, Bool.not_false, Bool.true_eq_false, not_true_eq_false, not_false_eq_true, true_implies, false_implies, implies_true, Bool.or_false, Bool.or_true, Bool.and_true, Bool.and_false, Bool.true_and, Bool.false_and, Bool.true_or, Bool.false_or, W_str1, strK_s, W_dstr1, strKF_s, st_starts, W_seqS, seqSK_s, W_sl, W_oPart, W_oNo, partK_i, decide_true, decide_false, in_sgn, W_ext, W_rcv, rcv_ok new_at, hΓ i (by omega)]
    rw [ext_ok new_at asL_l (by rw [List.length_map, List.length_map]; omega), List.set_append_right _ _ (Nat.le_refl _), Nat.sub_self]
    refine ⟨?_, _, rfl⟩
    conv => rhs; unfold bl
    rw [List.map_append]; rfl
  · rintro e U ⟨rfl, a, rfl⟩
    try simp -implicitDefEqProofs only [Sat_ok, Sat_err, Sat_bad, Sat_bind, Sat_ite, W_var, W_vars, W_c, W_nil, W_cons, W_tup, W_lst, W_new, W_bin, W_un, W_fn, W_dfn, W_call, W_callP, W_if, W_isi, W_val, W_setI, W_app, W_pop, W_popAt, W_ins, W_augI, andK_b, orK_b, W_and, W_or, notK_b, W_not, boolK_b, W_tval, W_tnot, W_tand, W_tor, W_tyes, W_mul, W_mod, W_fdiv, W_pow, W_idxT, W_idxL, Sx_next, Sx_seq, Sx_pass, Sx_expr, Sx_set, Sx_ret, Sx_retN, Sx_brk, Sx_cont, Sx_raise, Sx_if, Sx_ite, Sx_par, Sx_par3, Sx_asg, Sx_for, outK_ret, outK_err, outK_brk, outK_cont, loopK_ret, loopK_err, loopK_brk, loopK_cont, W_rng1, rngK_i, W_rng2, rngK2_i, W_seq, seqK_t, seqK_l, W_enumA, enumK_t, enumK_l, W_zip2, oCat_i, oSub_i, oNeg_i, oLt_i, oLe_i, oGt_i, oGe_i, oInt_i, oAbs_i, oMax2_i, oMin2_i, oGcd_i, oIsN_ap, oNotN_ap, oEq_i, oNe_i, oNe_b, oEq_b, gTup_ap, gAll_cons, gNm_ap, gAll_nil, List.set, decide_eq_true_eq, decide_eq_false_iff_not, if_true, if_false, Bool.not_eq_true, Bool.not_eq_true', Bool.false_eq_true, true_and, and_true, Option.some.injEq, exists_eq_left', exists_eq_left, beq_iff_eq, beq_eq_false_iff_ne, optR_some, R.bind, W_lc, atI_c0, atI_c1, atI_c2, Sx_try, tryK_ret, tryK_brk, tryK_cont, offK_ret, offK_brk, offK_cont, Bool.not_true, Bool.not_false, Bool.true_eq_false, not_true_eq_false, not_false_eq_true, true_implies, false_implies, implies_true, Bool.or_false, Bool.or_true, Bool.and_true, Bool.and_false, Bool.true_and, Bool.false_and, Bool.true_or, Bool.false_or, W_str1, strK_s, W_dstr1, strKF_s, st_starts, W_seqS, seqSK_s, W_sl, W_oPart, W_oNo, partK_i, decide_true, decide_false, in_sgn]
end K73

set_option maxHeartbeats 4000000
namespace K73
open Py
open PySem (Str sizeLine)
open TL (tl)
variable {n : Nat} {S : Store} {Γ : Calls} {cs : List Nat}
theorem isnum_ok {a b : Int} : Sat (runBody (d0 Γ) 3 [.tup [.int a, .int b]] S) (fun d S' => d = .bl (decide (1 ≤ b) && decide (Nat.gcd a.natAbs b.natAbs = 1)) ∧ S' = S) (fun _ _ _ => False) := by
  unfold d0
  rw [Sat_body]; simp -implicitDefEqProofs only [List.map_cons, List.map_nil, List.length_cons, List.length_nil, List.replicate, List.cons_append, List.nil_append]
  try simp -implicitDefEqProofs only [Sat_ok, Sat_err, Sat_bad, Sat_bind, Sat_ite, W_var, W_vars, W_c, W_nil, W_cons, W_tup, W_lst, W_new, W_bin, W_un, W_fn, W_dfn, W_call, W_callP, W_if, W_isi, W_val, W_setI, W_app, W_pop, W_popAt, W_ins, W_augI, andK_b, orK_b, W_and, W_or, notK_b, W_not, boolK_b, W_tval, W_tnot, W_tand, W_tor, W_tyes, W_mul, W_mod, W_fdiv, W_pow, W_idxT, W_idxL, Sx_next, Sx_seq, Sx_pass, Sx_expr, Sx_set, Sx_ret, Sx_retN, Sx_brk, Sx_cont, Sx_raise, Sx_if, Sx_ite, Sx_par, Sx_par3, Sx_asg, Sx_for, outK_ret, outK_err, outK_brk, outK_cont, loopK_ret, loopK_err, loopK_brk, loopK_cont, W_rng1, rngK_i, W_rng2, rngK2_i, W_seq, seqK_t, seqK_l, W_enumA, enumK_t, enumK_l, W_zip2, oCat_i, oSub_i, oNeg_i, oLt_i, oLe_i, oGt_i, oGe_i, oInt_i, oAbs_i, oMax2_i, oMin2_i, oGcd_i, oIsN_ap, oNotN_ap, oEq_i, oNe_i, oNe_b, oEq_b, gTup_ap, gAll_cons, gNm_ap, gAll_nil, List.set, decide_eq_true_eq, decide_eq_false_iff_not, if_true, if_false, Bool.not_eq_true, Bool.not_eq_true', Bool.false_eq_true, true_and, and_true, Option.some.injEq, exists_eq_left', exists_eq_left, beq_iff_eq, beq_eq_false_iff_ne, optR_some, R.bind, W_lc, atI_c0, atI_c1, atI_c2, Sx_try, tryK_ret, tryK_brk, tryK_cont, offK_ret, offK_brk, offK_cont, Bool.not_true, Bool.not_false, Bool.true_eq_false, not_true_eq_false, not_false_eq_true, true_implies, false_implies, implies_true, Bool.or_false, Bool.or_true, Bool.and_true, Bool.and_false, Bool.true_and, Bool.false_and, Bool.true_or, Bool.false_or, W_str1, strK_s, W_dstr1, strKF_s, st_starts, W_seqS, seqSK_s, W_sl, W_oPart, W_oNo, partK_i, decide_true, decide_false, in_sgn]
  refine ⟨fun h => ?_, fun h => ?_⟩
  · have e : ((((Nat.gcd a.natAbs b.natAbs : Nat) : Int)) == 1) = decide (Nat.gcd a.natAbs b.natAbs = 1) := by
      rw [Bool.eq_iff_iff, beq_iff_eq, decide_eq_true_iff]; omega
    rw [e, decide_eq_true h]; rfl
  · simp [h]
theorem abc_mem {c : Nat} (h : 97 ≤ c ∧ c ≤ 122) : c ∈ (PySem.Str.ofString "abcdefghijklmnopqrstuvwxyz").cps.toList := by
  have t : (List.range 26).all (fun k => decide ((97 + k) ∈ (PySem.Str.ofString "abcdefghijklmnopqrstuvwxyz").cps.toList)) = true := by decide +kernel
  have := List.all_eq_true.mp t (c - 97) (List.mem_range.mpr (by omega))
  rw [decide_eq_true_iff] at this
  rw [show 97 + (c - 97) = c by omega] at this
  exact this
theorem inS_c {c : Nat} {z : Str} {neg : Bool} : oInS neg (sgn c) (.str z) S = .ok (.bl (neg != decide (c ∈ tl z))) S := rfl
theorem leS_d {x y : Str} : oLeS (.str x) (.str y) S = .ok (.bl (!decide (tl y < tl x))) S := rfl
/-- checked_signs -/
theorem signs_ok (h : Ls cs) : Sat (runBody (d1 Γ) 3 [.str (sx cs)] S) (fun d S' => d = .non ∧ S' = S) (fun _ _ _ => False) := by
  unfold d1
  rw [Sat_body]; simp -implicitDefEqProofs only [List.map_cons, List.map_nil, List.length_cons, List.length_nil, List.replicate, List.cons_append, List.nil_append]
  try simp -implicitDefEqProofs only [Sat_ok, Sat_err, Sat_bad, Sat_bind, Sat_ite, W_var, W_vars, W_c, W_nil, W_cons, W_tup, W_lst, W_new, W_bin, W_un, W_fn, W_dfn, W_call, W_callP, W_if, W_isi, W_val, W_setI, W_app, W_pop, W_popAt, W_ins, W_augI, andK_b, orK_b, W_and, W_or, notK_b, W_not, boolK_b, W_tval, W_tnot, W_tand, W_tor, W_tyes, W_mul, W_mod, W_fdiv, W_pow, W_idxT, W_idxL, Sx_next, Sx_seq, Sx_pass, Sx_expr, Sx_set, Sx_ret, Sx_retN, Sx_brk, Sx_cont, Sx_raise, Sx_if, Sx_ite, Sx_par, Sx_par3, Sx_asg, Sx_for, outK_ret, outK_err, outK_brk, outK_cont, loopK_ret, loopK_err, loopK_brk, loopK_cont, W_rng1, rngK_i, W_rng2, rngK2_i, W_seq, seqK_t, seqK_l, W_enumA, enumK_t, enumK_l, W_zip2, oCat_i, oSub_i, oNeg_i, oLt_i, oLe_i, oGt_i, oGe_i, oInt_i, oAbs_i, oMax2_i, oMin2_i, oGcd_i, oIsN_ap, oNotN_ap, oEq_i, oNe_i, oNe_b, oEq_b, gTup_ap, gAll_cons, gNm_ap, gAll_nil, List.set, decide_eq_true_eq, decide_eq_false_iff_not, if_true, if_false, Bool.not_eq_true, Bool.not_eq_true', Bool.false_eq_true, true_and, and_true, Option.some.injEq, exists_eq_left', exists_eq_left, beq_iff_eq, beq_eq_false_iff_ne, optR_some, R.bind, W_lc, atI_c0, atI_c1, atI_c2, Sx_try, tryK_ret, tryK_brk, tryK_cont, offK_ret, offK_brk, offK_cont, Bool.not_true, Bool.not_false, Bool.true_eq_false, not_true_eq_false, not_false_eq_true, true_implies, false_implies, implies_true, Bool.or_false, Bool.or_true, Bool.and_true, Bool.and_false, Bool.true_and, Bool.false_and, Bool.true_or, Bool.false_or, W_str1, strK_s, W_dstr1, strKF_s, st_starts, W_seqS, seqSK_s, W_sl, W_oPart, W_oNo, partK_i, decide_true, decide_false, in_sgn]
  refine Sx_forL (fun i e U => U = S ∧ ∃ l a, e = [some (.str (sx cs)), some (dm l), a] ∧ ∀ c ∈ cs.drop i, l < [c]) ⟨rfl, [], none, rfl, fun c _ => List.nil_lt_cons _ _⟩ ?_ ?_
  · rintro i x e U hx ⟨rfl, l, a, rfl, hl⟩
    obtain ⟨hi, hx2⟩ := List.getElem?_eq_some_iff.mp hx
    rw [signs_mk, List.length_map] at hi
    have hxc : x = sgn cs[i] := by
      have : (cs.map sgn)[i]? = some x := hx
      rw [List.getElem?_map, List.getElem?_eq_getElem hi] at this
      exact (Option.some.inj this).symm
    subst hxc
    refine ⟨_, rfl, ?_⟩
    have h1 : cs[i] ∈ (PySem.Str.ofString "abcdefghijklmnopqrstuvwxyz").cps.toList := abc_mem (h.az _ (List.getElem_mem hi))
    have h2 : l < [cs[i]] := hl _ (by rw [List.drop_eq_getElem_cons hi]; exact List.mem_cons_self)
    have e1 : ∀ U : Store, oInS true (sgn cs[i]) (.str (PySem.Str.ofString "abcdefghijklmnopqrstuvwxyz")) U = .ok (.bl false) U := fun U => by
      rw [inS_c, decide_eq_true h1]; rfl
    have e2 : ∀ U : Store, oLeS (sgn cs[i]) (dm l) U = .ok (.bl false) U := fun U => by
      show oLeS (.str (sx [cs[i]])) (.str (sx l)) U = _
      rw [leS_d, decide_eq_true h2]; rfl
    simp -implicitDefEqProofs only [Sat_ok, Sat_err, Sat_bad, Sat_bind, Sat_ite, W_var, W_vars, W_c, W_nil, W_cons, W_tup, W_lst, W_new, W_bin, W_un, W_fn, W_dfn, W_call, W_callP, W_if, W_isi, W_val, W_setI, W_app, W_pop, W_popAt, W_ins, W_augI, andK_b, orK_b, W_and, W_or, notK_b, W_not, boolK_b, W_tval, W_tnot, W_tand, W_tor, W_tyes, W_mul, W_mod, W_fdiv, W_pow, W_idxT, W_idxL, Sx_next, Sx_seq, Sx_pass, Sx_expr, Sx_set, Sx_ret, Sx_retN, Sx_brk, Sx_cont, Sx_raise, Sx_if, Sx_ite, Sx_par, Sx_par3, Sx_asg, Sx_for, outK_ret, outK_err, outK_brk, outK_cont, loopK_ret, loopK_err, loopK_brk, loopK_cont, W_rng1, rngK_i, W_rng2, rngK2_i, W_seq, seqK_t, seqK_l, W_enumA, enumK_t, enumK_l, W_zip2, oCat_i, oSub_i, oNeg_i, oLt_i, oLe_i, oGt_i, oGe_i, oInt_i, oAbs_i, oMax2_i, oMin2_i, oGcd_i, oIsN_ap, oNotN_ap, oEq_i, oNe_i, oNe_b, oEq_b, gTup_ap, gAll_cons, gNm_ap, gAll_nil, List.set, decide_eq_true_eq, decide_eq_false_iff_not, if_true, if_false, Bool.not_eq_true, Bool.not_eq_true', Bool.false_eq_true, true_and, and_true, Option.some.injEq, exists_eq_left', exists_eq_left, beq_iff_eq, beq_eq_false_iff_ne, optR_some, R.bind, W_lc, atI_c0, atI_c1, atI_c2, Sx_try, tryK_ret, tryK_brk, tryK_cont, offK_ret, offK_brk, offK_cont, Bool.not_true, Bool.not_false, Bool.true_eq_false, not_true_eq_false, not_false_eq_true, true_implies, false_implies, implies_true, Bool.or_false, Bool.or_true, Bool.and_true, Bool.and_false, Bool.true_and, Bool.false_and, Bool.true_or, Bool.false_or, W_str1, strK_s, W_dstr1, strKF_s, st_starts, W_seqS, seqSK_s, W_sl, W_oPart, W_oNo, partK_i, decide_true, decide_false, in_sgn, e1, e2]
    refine ⟨[cs[i]], _, rfl, fun c hc => ?_⟩
    have hp := h.up
    rw [← List.take_append_drop i cs, List.drop_eq_getElem_cons hi] at hp
    have := (List.pairwise_cons.mp (List.pairwise_append.mp hp).2.1).1 c hc
    exact List.Lex.rel this
  · rintro e U ⟨rfl, l, a, rfl, hl⟩
    have hne : (sx cs == PySem.Str.ofString "") = false := str_ne.mpr (by
      have := h.ne
      intro e
      exact this e)
    simp -implicitDefEqProofs only [Sat_ok, Sat_err, Sat_bad, Sat_bind, Sat_ite, W_var, W_vars, W_c, W_nil, W_cons, W_tup, W_lst, W_new, W_bin, W_un, W_fn, W_dfn, W_call, W_callP, W_if, W_isi, W_val, W_setI, W_app, W_pop, W_popAt, W_ins, W_augI, andK_b, orK_b, W_and, W_or, notK_b, W_not, boolK_b, W_tval, W_tnot, W_tand, W_tor, W_tyes, W_mul, W_mod, W_fdiv, W_pow, W_idxT, W_idxL, Sx_next, Sx_seq, Sx_pass, Sx_expr, Sx_set, Sx_ret, Sx_retN, Sx_brk, Sx_cont, Sx_raise, Sx_if, Sx_ite, Sx_par, Sx_par3, Sx_asg, Sx_for, outK_ret, outK_err, outK_brk, outK_cont, loopK_ret, loopK_err, loopK_brk, loopK_cont, W_rng1, rngK_i, W_rng2, rngK2_i, W_seq, seqK_t, seqK_l, W_enumA, enumK_t, enumK_l, W_zip2, oCat_i, oSub_i, oNeg_i, oLt_i, oLe_i, oGt_i, oGe_i, oInt_i, oAbs_i, oMax2_i, oMin2_i, oGcd_i, oIsN_ap, oNotN_ap, oEq_i, oNe_i, oNe_b, oEq_b, gTup_ap, gAll_cons, gNm_ap, gAll_nil, List.set, decide_eq_true_eq, decide_eq_false_iff_not, if_true, if_false, Bool.not_eq_true, Bool.not_eq_true', Bool.false_eq_true, true_and, and_true, Option.some.injEq, exists_eq_left', exists_eq_left, beq_iff_eq, beq_eq_false_iff_ne, optR_some, R.bind, W_lc, atI_c0, atI_c1, atI_c2, Sx_try, tryK_ret, tryK_brk, tryK_cont, offK_ret, offK_brk, offK_cont, Bool.not_true, Bool.not_false, Bool.true_eq_false, not_true_eq_false, not_false_eq_true, true_implies, false_implies, implies_true, Bool.or_false, Bool.or_true, Bool.and_true, Bool.and_false, Bool.true_and, Bool.false_and, Bool.true_or, Bool.false_or, W_str1, strK_s, W_dstr1, strKF_s, st_starts, W_seqS, seqSK_s, W_sl, W_oPart, W_oNo, partK_i, decide_true, decide_false, in_sgn, eq_s h.okx.ok (show okS (PySem.Str.ofString "") = true by decide +kernel), hne]
theorem size_ok {k : Nat} : Sat (runBody (d4 Γ) 1 [.int (k : Nat)] S) (fun d S' => d = .non ∧ S' = S) (fun _ _ _ => False) := by
  unfold d4
  rw [Sat_body]; simp -implicitDefEqProofs only [List.map_cons, List.map_nil, List.length_cons, List.length_nil, List.replicate, List.cons_append, List.nil_append]
  try simp -implicitDefEqProofs only [Sat_ok, Sat_err, Sat_bad, Sat_bind, Sat_ite, W_var, W_vars, W_c, W_nil, W_cons, W_tup, W_lst, W_new, W_bin, W_un, W_fn, W_dfn, W_call, W_callP, W_if, W_isi, W_val, W_setI, W_app, W_pop, W_popAt, W_ins, W_augI, andK_b, orK_b, W_and, W_or, notK_b, W_not, boolK_b, W_tval, W_tnot, W_tand, W_tor, W_tyes, W_mul, W_mod, W_fdiv, W_pow, W_idxT, W_idxL, Sx_next, Sx_seq, Sx_pass, Sx_expr, Sx_set, Sx_ret, Sx_retN, Sx_brk, Sx_cont, Sx_raise, Sx_if, Sx_ite, Sx_par, Sx_par3, Sx_asg, Sx_for, outK_ret, outK_err, outK_brk, outK_cont, loopK_ret, loopK_err, loopK_brk, loopK_cont, W_rng1, rngK_i, W_rng2, rngK2_i, W_seq, seqK_t, seqK_l, W_enumA, enumK_t, enumK_l, W_zip2, oCat_i, oSub_i, oNeg_i, oLt_i, oLe_i, oGt_i, oGe_i, oInt_i, oAbs_i, oMax2_i, oMin2_i, oGcd_i, oIsN_ap, oNotN_ap, oEq_i, oNe_i, oNe_b, oEq_b, gTup_ap, gAll_cons, gNm_ap, gAll_nil, List.set, decide_eq_true_eq, decide_eq_false_iff_not, if_true, if_false, Bool.not_eq_true, Bool.not_eq_true', Bool.false_eq_true, true_and, and_true, Option.some.injEq, exists_eq_left', exists_eq_left, beq_iff_eq, beq_eq_false_iff_ne, optR_some, R.bind, W_lc, atI_c0, atI_c1, atI_c2, Sx_try, tryK_ret, tryK_brk, tryK_cont, offK_ret, offK_brk, offK_cont, Bool.not_true, Bool.not_false, Bool.true_eq_false, not_true_eq_false, not_false_eq_true, true_implies, false_implies, implies_true, Bool.or_false, Bool.or_true, Bool.and_true, Bool.and_false, Bool.true_and, Bool.false_and, Bool.true_or, Bool.false_or, W_str1, strK_s, W_dstr1, strKF_s, st_starts, W_seqS, seqSK_s, W_sl, W_oPart, W_oNo, partK_i, decide_true, decide_false, in_sgn]
  omega
/-- asked -/
theorem asked_ok {k : Nat} (h1 : ∀ S, Γ 1 [.str (sx cs)] S = .ok .non S) (h4 : ∀ S, Γ 4 [.int (k : Nat)] S = .ok .non S) (hk : k ≤ 17)
    (h3 : ∀ S, OkR (Γ 3 [.str (sx cs), .int (2 * k : Nat)] S) (fun d S' => d = .ref S.length ∧ S' = S ++ [.lst ((bl cs (2 * k)).map dm)])) :
    OkR (runBody (d6 Γ) 2 [.str (sx cs), .int (k : Nat)] S) (fun d S' => d = .ref S.length ∧ S' = S ++ [.lst ((bl cs (2 * k)).map dm)]) := by
  refine ⟨?_⟩
  have hm : mulOk 2 (k : Int) = true := mulOk_small (by decide) (sm (B := 100) (by omega) (by decide))
  have e : (2 * (k : Int)) = ((2 * k : Nat) : Int) := by omega
  unfold d6
  rw [Sat_body]; simp -implicitDefEqProofs only [List.map_cons, List.map_nil, List.length_cons, List.length_nil, List.replicate, List.cons_append, List.nil_append]
  simp -implicitDefEqProofs only [Sat_ok, Sat_err, Sat_bad, Sat_bind, Sat_ite, W_var, W_vars, W_c, W_nil, W_cons, W_tup, W_lst, W_new, W_bin, W_un, W_fn, W_dfn, W_call, W_callP, W_if, W_isi, W_val, W_setI, W_app, W_pop, W_popAt, W_ins, W_augI, andK_b, orK_b, W_and, W_or, notK_b, W_not, boolK_b, W_tval, W_tnot, W_tand, W_tor, W_tyes, W_mul, W_mod, W_fdiv, W_pow, W_idxT, W_idxL, Sx_next, Sx_seq, Sx_pass, Sx_expr, Sx_set, Sx_ret, Sx_retN, Sx_brk, Sx_cont, Sx_raise, Sx_if, Sx_ite, Sx_par, Sx_par3, Sx_asg, Sx_for, outK_ret, outK_err, outK_brk, outK_cont, loopK_ret, loopK_err, loopK_brk, loopK_cont, W_rng1, rngK_i, W_rng2, rngK2_i, W_seq, seqK_t, seqK_l, W_enumA, enumK_t, enumK_l, W_zip2, oCat_i, oSub_i, oNeg_i, oLt_i, oLe_i, oGt_i, oGe_i, oInt_i, oAbs_i, oMax2_i, oMin2_i, oGcd_i, oIsN_ap, oNotN_ap, oEq_i, oNe_i, oNe_b, oEq_b, gTup_ap, gAll_cons, gNm_ap, gAll_nil, List.set, decide_eq_true_eq, decide_eq_false_iff_not, if_true, if_false, Bool.not_eq_true, Bool.not_eq_true', Bool.false_eq_true, true_and, and_true, Option.some.injEq, exists_eq_left', exists_eq_left, beq_iff_eq, beq_eq_false_iff_ne, optR_some, R.bind, W_lc, atI_c0, atI_c1, atI_c2, Sx_try, tryK_ret, tryK_brk, tryK_cont, offK_ret, offK_brk, offK_cont, Bool.not_true, Bool.not_false, Bool.true_eq_false, not_true_eq_false, not_false_eq_true, true_implies, false_implies, implies_true, Bool.or_false, Bool.or_true, Bool.and_true, Bool.and_false, Bool.true_and, Bool.false_and, Bool.true_or, Bool.false_or, W_str1, strK_s, W_dstr1, strKF_s, st_starts, W_seqS, seqSK_s, W_sl, W_oPart, W_oNo, partK_i, decide_true, decide_false, in_sgn, h1, h4, oRep_i hm]
  rw [e]
  exact (h3 S).h
/-! ### answers -/
abbrev Nt := List Nat × Int × Int
def dN (n : Nt) : D := .tup [dm n.1, .tup [.int n.2.1, .int n.2.2]]
structure Gd (cs : List Nat) (ns : List Nt) : Prop where
  nd : (ns.map (·.1)).Nodup
  ok : ∀ n ∈ ns, Tx cs 20 n.1 ∧ 1 ≤ n.2.2 ∧ Nat.gcd n.2.1.natAbs n.2.2.natAbs = 1
  len : ns.length ≤ 20000
abbrev keys (ms : List (List Nat)) : List (Sum Int Str) := ms.map fun m => .inr (sx m)
theorem kIn_keys {ms : List (List Nat)} {m : List Nat} : kIn (keys ms) (sx m) = decide (m ∈ ms) := by
  unfold kIn keys
  rw [List.any_map]
  rw [Bool.eq_iff_iff, List.any_eq_true, decide_eq_true_iff]
  constructor
  · rintro ⟨x, hx, h⟩
    have h := of_decide_eq_true h
    have := mk_inj.mp (Sum.inr.inj h)
    exact this ▸ hx
  · intro h
    exact ⟨m, h, by simp⟩
theorem all_true {α : Type} {l : List α} : (l.all fun _ => true) = true := by simp
/-- checked_answers -/
theorem answers_ok {ns : List Nt} {q : Nat} (hc : Ls cs) (h : Gd cs ns) (hq : S[q]? = some (.lst (ns.map dN))) (h0 : ∀ a b S, Γ 0 [.tup [.int a, .int b]] S = .ok (.bl (decide (1 ≤ b) && decide (Nat.gcd a.natAbs b.natAbs = 1))) S) :
    Sat (runBody (d5 Γ) 8 [.str (sx cs), .ref q] S) (fun d S' => d = .ref S.length ∧ ∃ vs, S' = S ++ [.dct (keys (ns.map (·.1))) vs]) (fun _ _ _ => False) := by
  have hql := lt_of_get hq
  unfold d5
  rw [Sat_body]; simp -implicitDefEqProofs only [List.map_cons, List.map_nil, List.length_cons, List.length_nil, List.replicate, List.cons_append, List.nil_append]
  simp -implicitDefEqProofs only [Sat_ok, Sat_err, Sat_bad, Sat_bind, Sat_ite, W_var, W_vars, W_c, W_nil, W_cons, W_tup, W_lst, W_new, W_bin, W_un, W_fn, W_dfn, W_call, W_callP, W_if, W_isi, W_val, W_setI, W_app, W_pop, W_popAt, W_ins, W_augI, andK_b, orK_b, W_and, W_or, notK_b, W_not, boolK_b, W_tval, W_tnot, W_tand, W_tor, W_tyes, W_mul, W_mod, W_fdiv, W_pow, W_idxT, W_idxL, Sx_next, Sx_seq, Sx_pass, Sx_expr, Sx_set, Sx_ret, Sx_retN, Sx_brk, Sx_cont, Sx_raise, Sx_if, Sx_ite, Sx_par, Sx_par3, Sx_asg, Sx_for, outK_ret, outK_err, outK_brk, outK_cont, loopK_ret, loopK_err, loopK_brk, loopK_cont, W_rng1, rngK_i, W_rng2, rngK2_i, W_seq, seqK_t, seqK_l, W_enumA, enumK_t, enumK_l, W_zip2, oCat_i, oSub_i, oNeg_i, oLt_i, oLe_i, oGt_i, oGe_i, oInt_i, oAbs_i, oMax2_i, oMin2_i, oGcd_i, oIsN_ap, oNotN_ap, oEq_i, oNe_i, oNe_b, oEq_b, gTup_ap, gAll_cons, gNm_ap, gAll_nil, List.set, decide_eq_true_eq, decide_eq_false_iff_not, if_true, if_false, Bool.not_eq_true, Bool.not_eq_true', Bool.false_eq_true, true_and, and_true, Option.some.injEq, exists_eq_left', exists_eq_left, beq_iff_eq, beq_eq_false_iff_ne, optR_some, R.bind, W_lc, atI_c0, atI_c1, atI_c2, Sx_try, tryK_ret, tryK_brk, tryK_cont, offK_ret, offK_brk, offK_cont, Bool.not_true, Bool.not_false, Bool.true_eq_false, not_true_eq_false, not_false_eq_true, true_implies, false_implies, implies_true, Bool.or_false, Bool.or_true, Bool.and_true, Bool.and_false, Bool.true_and, Bool.false_and, Bool.true_or, Bool.false_or, W_str1, strK_s, W_dstr1, strKF_s, st_starts, W_seqS, seqSK_s, W_sl, W_oPart, W_oNo, partK_i, decide_true, decide_false, in_sgn, W_dnew]
  have hq2 : ∀ o, (S ++ [o])[q]? = some (.lst (ns.map dN)) := fun o => by rw [List.getElem?_append_left hql]; exact hq
  have es : seqK (.ref q) (S ++ [.dct [] []]) = .ok (wkR q, (ns.map dN).length) (S ++ [.dct [] []]) := by
    show (match (S ++ [O.dct [] []])[q]? with | some (.lst xs) => Py.R.ok (wkR q, xs.length) _ | _ => .bad) = _
    rw [hq2]
  rw [es]
  try simp -implicitDefEqProofs only [Sat_ok, Sat_err, Sat_bad, Sat_bind, Sat_ite, W_var, W_vars, W_c, W_nil, W_cons, W_tup, W_lst, W_new, W_bin, W_un, W_fn, W_dfn, W_call, W_callP, W_if, W_isi, W_val, W_setI, W_app, W_pop, W_popAt, W_ins, W_augI, andK_b, orK_b, W_and, W_or, notK_b, W_not, boolK_b, W_tval, W_tnot, W_tand, W_tor, W_tyes, W_mul, W_mod, W_fdiv, W_pow, W_idxT, W_idxL, Sx_next, Sx_seq, Sx_pass, Sx_expr, Sx_set, Sx_ret, Sx_retN, Sx_brk, Sx_cont, Sx_raise, Sx_if, Sx_ite, Sx_par, Sx_par3, Sx_asg, Sx_for, outK_ret, outK_err, outK_brk, outK_cont, loopK_ret, loopK_err, loopK_brk, loopK_cont, W_rng1, rngK_i, W_rng2, rngK2_i, W_seq, seqK_t, seqK_l, W_enumA, enumK_t, enumK_l, W_zip2, oCat_i, oSub_i, oNeg_i, oLt_i, oLe_i, oGt_i, oGe_i, oInt_i, oAbs_i, oMax2_i, oMin2_i, oGcd_i, oIsN_ap, oNotN_ap, oEq_i, oNe_i, oNe_b, oEq_b, gTup_ap, gAll_cons, gNm_ap, gAll_nil, List.set, decide_eq_true_eq, decide_eq_false_iff_not, if_true, if_false, Bool.not_eq_true, Bool.not_eq_true', Bool.false_eq_true, true_and, and_true, Option.some.injEq, exists_eq_left', exists_eq_left, beq_iff_eq, beq_eq_false_iff_ne, optR_some, R.bind, W_lc, atI_c0, atI_c1, atI_c2, Sx_try, tryK_ret, tryK_brk, tryK_cont, offK_ret, offK_brk, offK_cont, Bool.not_true, Bool.not_false, Bool.true_eq_false, not_true_eq_false, not_false_eq_true, true_implies, false_implies, implies_true, Bool.or_false, Bool.or_true, Bool.and_true, Bool.and_false, Bool.true_and, Bool.false_and, Bool.true_or, Bool.false_or, W_str1, strK_s, W_dstr1, strKF_s, st_starts, W_seqS, seqSK_s, W_sl, W_oPart, W_oNo, partK_i, decide_true, decide_false, in_sgn]
  refine Sx_forR (xs := ns.map dN) (fun i e U => ∃ vs a b c d f, U = S ++ [.dct (keys ((ns.take i).map (·.1))) vs] ∧ e = [some (.str (sx cs)), some (.ref q), some (.ref S.length), a, b, c, d, f]) ⟨[], none, none, none, none, none, rfl, rfl⟩ ?_ ?_ ?_
  · rintro i e U ⟨vs, a, b, c, d, f, rfl, rfl⟩
    exact hq2 _
  · rintro i x e U hx ⟨vs, a, b, c, d, f, rfl, rfl⟩
    obtain ⟨hi, hx2⟩ := List.getElem?_eq_some_iff.mp hx
    rw [List.length_map] at hi
    have hxc : x = dN ns[i] := by rw [← hx2, List.getElem_map]
    subst hxc
    have hok := h.ok _ (List.getElem_mem hi)
    have hnd := h.nd
    have hlen := h.len
    rw [← List.take_append_drop i ns, List.drop_eq_getElem_cons hi, List.map_append, List.map_cons] at hnd
    have hnot : ns[i].1 ∉ (ns.take i).map (·.1) := fun hm => (List.nodup_append.mp hnd).2.2 _ hm _ List.mem_cons_self rfl
    have hk : kIn (keys ((ns.take i).map (·.1))) (sx ns[i].1) = false := by rw [kIn_keys]; exact decide_eq_false hnot
    have hta : (ns.take (i + 1)).map (·.1) = (ns.take i).map (·.1) ++ [ns[i].1] := by rw [List.take_succ_eq_append_getElem hi, List.map_append]; rfl
    refine ⟨_, rfl, ?_⟩
    rw [hta]
    generalize ns[i] = nt at *
    obtain ⟨m, p, r⟩ := nt
    dsimp only at *
    obtain ⟨tx, hr, hg⟩ := hok
    have eg : gTup (gNm 4 :: gNm 5 :: []) (dN (m, p, r)) [some (D.str (sx cs)), some (D.ref q), some (D.ref S.length), some (dN (m, p, r)), b, c, d, f] (S ++ [.dct (keys ((ns.take i).map (·.1))) vs]) = some [some (D.str (sx cs)), some (D.ref q), some (D.ref S.length), some (dN (m, p, r)), some (dm m), some (.tup [.int p, .int r]), d, f] := rfl
    try simp -implicitDefEqProofs only [Sat_ok, Sat_err, Sat_bad, Sat_bind, Sat_ite, W_var, W_vars, W_c, W_nil, W_cons, W_tup, W_lst, W_new, W_bin, W_un, W_fn, W_dfn, W_call, W_callP, W_if, W_isi, W_val, W_setI, W_app, W_pop, W_popAt, W_ins, W_augI, andK_b, orK_b, W_and, W_or, notK_b, W_not, boolK_b, W_tval, W_tnot, W_tand, W_tor, W_tyes, W_mul, W_mod, W_fdiv, W_pow, W_idxT, W_idxL, Sx_next, Sx_seq, Sx_pass, Sx_expr, Sx_set, Sx_ret, Sx_retN, Sx_brk, Sx_cont, Sx_raise, Sx_if, Sx_ite, Sx_par, Sx_par3, Sx_asg, Sx_for, outK_ret, outK_err, outK_brk, outK_cont, loopK_ret, loopK_err, loopK_brk, loopK_cont, W_rng1, rngK_i, W_rng2, rngK2_i, W_seq, seqK_t, seqK_l, W_enumA, enumK_t, enumK_l, W_zip2, oCat_i, oSub_i, oNeg_i, oLt_i, oLe_i, oGt_i, oGe_i, oInt_i, oAbs_i, oMax2_i, oMin2_i, oGcd_i, oIsN_ap, oNotN_ap, oEq_i, oNe_i, oNe_b, oEq_b, gTup_ap, gAll_cons, gNm_ap, gAll_nil, List.set, decide_eq_true_eq, decide_eq_false_iff_not, if_true, if_false, Bool.not_eq_true, Bool.not_eq_true', Bool.false_eq_true, true_and, and_true, Option.some.injEq, exists_eq_left', exists_eq_left, beq_iff_eq, beq_eq_false_iff_ne, optR_some, R.bind, W_lc, atI_c0, atI_c1, atI_c2, Sx_try, tryK_ret, tryK_brk, tryK_cont, offK_ret, offK_brk, offK_cont, Bool.not_true, Bool.not_false, Bool.true_eq_false, not_true_eq_false, not_false_eq_true, true_implies, false_implies, implies_true, Bool.or_false, Bool.or_true, Bool.and_true, Bool.and_false, Bool.true_and, Bool.false_and, Bool.true_or, Bool.false_or, W_str1, strK_s, W_dstr1, strKF_s, st_starts, W_seqS, seqSK_s, W_sl, W_oPart, W_oNo, partK_i, decide_true, decide_false, in_sgn]
    refine ⟨_, eg, ?_⟩
    have hz : (signs (sx m)).length ≤ sizeLine := by rw [signs_mk, List.length_map, slz]; have := tx.1; omega
    simp -implicitDefEqProofs only [Sat_ok, Sat_err, Sat_bad, Sat_bind, Sat_ite, W_var, W_vars, W_c, W_nil, W_cons, W_tup, W_lst, W_new, W_bin, W_un, W_fn, W_dfn, W_call, W_callP, W_if, W_isi, W_val, W_setI, W_app, W_pop, W_popAt, W_ins, W_augI, andK_b, orK_b, W_and, W_or, notK_b, W_not, boolK_b, W_tval, W_tnot, W_tand, W_tor, W_tyes, W_mul, W_mod, W_fdiv, W_pow, W_idxT, W_idxL, Sx_next, Sx_seq, Sx_pass, Sx_expr, Sx_set, Sx_ret, Sx_retN, Sx_brk, Sx_cont, Sx_raise, Sx_if, Sx_ite, Sx_par, Sx_par3, Sx_asg, Sx_for, outK_ret, outK_err, outK_brk, outK_cont, loopK_ret, loopK_err, loopK_brk, loopK_cont, W_rng1, rngK_i, W_rng2, rngK2_i, W_seq, seqK_t, seqK_l, W_enumA, enumK_t, enumK_l, W_zip2, oCat_i, oSub_i, oNeg_i, oLt_i, oLe_i, oGt_i, oGe_i, oInt_i, oAbs_i, oMax2_i, oMin2_i, oGcd_i, oIsN_ap, oNotN_ap, oEq_i, oNe_i, oNe_b, oEq_b, gTup_ap, gAll_cons, gNm_ap, gAll_nil, List.set, decide_eq_true_eq, decide_eq_false_iff_not, if_true, if_false, Bool.not_eq_true, Bool.not_eq_true', Bool.false_eq_true, true_and, and_true, Option.some.injEq, exists_eq_left', exists_eq_left, beq_iff_eq, beq_eq_false_iff_ne, optR_some, R.bind, W_lc, atI_c0, atI_c1, atI_c2, Sx_try, tryK_ret, tryK_brk, tryK_cont, offK_ret, offK_brk, offK_cont, Bool.not_true, Bool.not_false, Bool.true_eq_false, not_true_eq_false, not_false_eq_true, true_implies, false_implies, implies_true, Bool.or_false, Bool.or_true, Bool.and_true, Bool.and_false, Bool.true_and, Bool.false_and, Bool.true_or, Bool.false_or, W_str1, strK_s, W_dstr1, strKF_s, st_starts, W_seqS, seqSK_s, W_sl, W_oPart, W_oNo, partK_i, decide_true, decide_false, in_sgn, show dm m = .str (sx m) from rfl, seqSK_s]
    refine Sat_lcP (fun _ => .bl true) ?_ (fun _ _ => rfl) hz ?_
    · intro x hx S' _
      obtain ⟨c', hc', rfl⟩ := List.mem_map.mp (show x ∈ m.map sgn from hx)
      refine ⟨_, rfl, ?_⟩
      show Sat (oInS false (sgn c') (.str (sx cs)) S') _ _
      rw [inS_c, decide_eq_true (show c' ∈ tl (sx cs) from tx.2 _ hc')]
      exact ⟨rfl, rfl⟩
    · rw [oAll_map (p := fun _ => true), all_true]
      have eD : oInD false (.str (sx m)) (.ref S.length) (S ++ [.dct (keys ((ns.take i).map (·.1))) vs]) = .ok (.bl false) (S ++ [.dct (keys ((ns.take i).map (·.1))) vs]) := by rw [inD_r new_at, hk]; rfl
      have e0 : Γ 0 [.tup [.int p, .int r]] (S ++ [.dct (keys ((ns.take i).map (·.1))) vs]) = .ok (.bl true) (S ++ [.dct (keys ((ns.take i).map (·.1))) vs]) := by rw [h0, decide_eq_true hr, decide_eq_true hg]; rfl
      simp -implicitDefEqProofs only [Sat_ok, Sat_err, Sat_bad, Sat_bind, Sat_ite, W_var, W_vars, W_c, W_nil, W_cons, W_tup, W_lst, W_new, W_bin, W_un, W_fn, W_dfn, W_call, W_callP, W_if, W_isi, W_val, W_setI, W_app, W_pop, W_popAt, W_ins, W_augI, andK_b, orK_b, W_and, W_or, notK_b, W_not, boolK_b, W_tval, W_tnot, W_tand, W_tor, W_tyes, W_mul, W_mod, W_fdiv, W_pow, W_idxT, W_idxL, Sx_next, Sx_seq, Sx_pass, Sx_expr, Sx_set, Sx_ret, Sx_retN, Sx_brk, Sx_cont, Sx_raise, Sx_if, Sx_ite, Sx_par, Sx_par3, Sx_asg, Sx_for, outK_ret, outK_err, outK_brk, outK_cont, loopK_ret, loopK_err, loopK_brk, loopK_cont, W_rng1, rngK_i, W_rng2, rngK2_i, W_seq, seqK_t, seqK_l, W_enumA, enumK_t, enumK_l, W_zip2, oCat_i, oSub_i, oNeg_i, oLt_i, oLe_i, oGt_i, oGe_i, oInt_i, oAbs_i, oMax2_i, oMin2_i, oGcd_i, oIsN_ap, oNotN_ap, oEq_i, oNe_i, oNe_b, oEq_b, gTup_ap, gAll_cons, gNm_ap, gAll_nil, List.set, decide_eq_true_eq, decide_eq_false_iff_not, if_true, if_false, Bool.not_eq_true, Bool.not_eq_true', Bool.false_eq_true, true_and, and_true, Option.some.injEq, exists_eq_left', exists_eq_left, beq_iff_eq, beq_eq_false_iff_ne, optR_some, R.bind, W_lc, atI_c0, atI_c1, atI_c2, Sx_try, tryK_ret, tryK_brk, tryK_cont, offK_ret, offK_brk, offK_cont, Bool.not_true, Bool.not_false, Bool.true_eq_false, not_true_eq_false, not_false_eq_true, true_implies, false_implies, implies_true, Bool.or_false, Bool.or_true, Bool.and_true, Bool.and_false, Bool.true_and, Bool.false_and, Bool.true_or, Bool.false_or, W_str1, strK_s, W_dstr1, strKF_s, st_starts, W_seqS, seqSK_s, W_sl, W_oPart, W_oNo, partK_i, decide_true, decide_false, in_sgn, eD, e0, W_setD]
      have hkl : (keys ((ns.take i).map (·.1))).length ≤ 1000000 := by unfold keys; rw [List.length_map, List.length_map, List.length_take]; omega
      rw [putD_ok new_at hk hkl]
      refine ⟨vs ++ [.tup [.int p, .int r]], _, _, _, _, _, ?_, rfl⟩
      rw [List.set_append_right _ _ (Nat.le_refl _), Nat.sub_self]
      unfold keys
      rw [List.map_append]
      rfl
  · rintro e U ⟨vs, a, b, c, d, f, rfl, rfl⟩
    try simp -implicitDefEqProofs only [Sat_ok, Sat_err, Sat_bad, Sat_bind, Sat_ite, W_var, W_vars, W_c, W_nil, W_cons, W_tup, W_lst, W_new, W_bin, W_un, W_fn, W_dfn, W_call, W_callP, W_if, W_isi, W_val, W_setI, W_app, W_pop, W_popAt, W_ins, W_augI, andK_b, orK_b, W_and, W_or, notK_b, W_not, boolK_b, W_tval, W_tnot, W_tand, W_tor, W_tyes, W_mul, W_mod, W_fdiv, W_pow, W_idxT, W_idxL, Sx_next, Sx_seq, Sx_pass, Sx_expr, Sx_set, Sx_ret, Sx_retN, Sx_brk, Sx_cont, Sx_raise, Sx_if, Sx_ite, Sx_par, Sx_par3, Sx_asg, Sx_for, outK_ret, outK_err, outK_brk, outK_cont, loopK_ret, loopK_err, loopK_brk, loopK_cont, W_rng1, rngK_i, W_rng2, rngK2_i, W_seq, seqK_t, seqK_l, W_enumA, enumK_t, enumK_l, W_zip2, oCat_i, oSub_i, oNeg_i, oLt_i, oLe_i, oGt_i, oGe_i, oInt_i, oAbs_i, oMax2_i, oMin2_i, oGcd_i, oIsN_ap, oNotN_ap, oEq_i, oNe_i, oNe_b, oEq_b, gTup_ap, gAll_cons, gNm_ap, gAll_nil, List.set, decide_eq_true_eq, decide_eq_false_iff_not, if_true, if_false, Bool.not_eq_true, Bool.not_eq_true', Bool.false_eq_true, true_and, and_true, Option.some.injEq, exists_eq_left', exists_eq_left, beq_iff_eq, beq_eq_false_iff_ne, optR_some, R.bind, W_lc, atI_c0, atI_c1, atI_c2, Sx_try, tryK_ret, tryK_brk, tryK_cont, offK_ret, offK_brk, offK_cont, Bool.not_true, Bool.not_false, Bool.true_eq_false, not_true_eq_false, not_false_eq_true, true_implies, false_implies, implies_true, Bool.or_false, Bool.or_true, Bool.and_true, Bool.and_false, Bool.true_and, Bool.false_and, Bool.true_or, Bool.false_or, W_str1, strK_s, W_dstr1, strKF_s, st_starts, W_seqS, seqSK_s, W_sl, W_oPart, W_oNo, partK_i, decide_true, decide_false, in_sgn]
    refine ⟨vs, ?_⟩
    rw [List.length_map, List.take_length]
/-- the first that is not among them -/
def fstN (due ms : List (List Nat)) : D := match due.filter (fun m => !decide (m ∈ ms)) with | [] => .non | m :: _ => dm m
/-- next_message -/
theorem next_ok {ns : List Nt} {q k : Nat} (hq : S[q]? = some (.lst (ns.map dN))) (hb : (bl cs (2 * k)).length ≤ 20000)
    (h6 : ∀ S, Sat (Γ 6 [.str (sx cs), .int (k : Nat)] S) (fun d S' => d = .ref S.length ∧ S' = S ++ [.lst ((bl cs (2 * k)).map dm)]) (fun _ _ _ => False))
    (h5 : ∀ S : Store, S[q]? = some (.lst (ns.map dN)) → Sat (Γ 5 [.str (sx cs), .ref q] S) (fun d S' => d = .ref S.length ∧ ∃ vs, S' = S ++ [.dct (keys (ns.map (·.1))) vs]) (fun _ _ _ => False)) :
    Sat (runBody (d7 Γ) 6 [.str (sx cs), .int (k : Nat), .ref q] S) (fun d S' => d = fstN (bl cs (2 * k)) (ns.map (·.1)) ∧ Pre S S') (fun _ _ _ => False) := by
  unfold d7
  rw [Sat_body]; simp -implicitDefEqProofs only [List.map_cons, List.map_nil, List.length_cons, List.length_nil, List.replicate, List.cons_append, List.nil_append]
  try simp -implicitDefEqProofs only [Sat_ok, Sat_err, Sat_bad, Sat_bind, Sat_ite, W_var, W_vars, W_c, W_nil, W_cons, W_tup, W_lst, W_new, W_bin, W_un, W_fn, W_dfn, W_call, W_callP, W_if, W_isi, W_val, W_setI, W_app, W_pop, W_popAt, W_ins, W_augI, andK_b, orK_b, W_and, W_or, notK_b, W_not, boolK_b, W_tval, W_tnot, W_tand, W_tor, W_tyes, W_mul, W_mod, W_fdiv, W_pow, W_idxT, W_idxL, Sx_next, Sx_seq, Sx_pass, Sx_expr, Sx_set, Sx_ret, Sx_retN, Sx_brk, Sx_cont, Sx_raise, Sx_if, Sx_ite, Sx_par, Sx_par3, Sx_asg, Sx_for, outK_ret, outK_err, outK_brk, outK_cont, loopK_ret, loopK_err, loopK_brk, loopK_cont, W_rng1, rngK_i, W_rng2, rngK2_i, W_seq, seqK_t, seqK_l, W_enumA, enumK_t, enumK_l, W_zip2, oCat_i, oSub_i, oNeg_i, oLt_i, oLe_i, oGt_i, oGe_i, oInt_i, oAbs_i, oMax2_i, oMin2_i, oGcd_i, oIsN_ap, oNotN_ap, oEq_i, oNe_i, oNe_b, oEq_b, gTup_ap, gAll_cons, gNm_ap, gAll_nil, List.set, decide_eq_true_eq, decide_eq_false_iff_not, if_true, if_false, Bool.not_eq_true, Bool.not_eq_true', Bool.false_eq_true, true_and, and_true, Option.some.injEq, exists_eq_left', exists_eq_left, beq_iff_eq, beq_eq_false_iff_ne, optR_some, R.bind, W_lc, atI_c0, atI_c1, atI_c2, Sx_try, tryK_ret, tryK_brk, tryK_cont, offK_ret, offK_brk, offK_cont, Bool.not_true, Bool.not_false, Bool.true_eq_false, not_true_eq_false, not_false_eq_true, true_implies, false_implies, implies_true, Bool.or_false, Bool.or_true, Bool.and_true, Bool.and_false, Bool.true_and, Bool.false_and, Bool.true_or, Bool.false_or, W_str1, strK_s, W_dstr1, strKF_s, st_starts, W_seqS, seqSK_s, W_sl, W_oPart, W_oNo, partK_i, decide_true, decide_false, in_sgn]
  refine Sat_use0 (h6 S) ?_
  rintro _ _ ⟨rfl, rfl⟩
  refine Sat_use0 (h5 _ (by rw [List.getElem?_append_left (lt_of_get hq)]; exact hq)) ?_
  rintro _ _ ⟨rfl, vs, rfl⟩
  have g1 : ((S ++ [O.lst ((bl cs (2 * k)).map dm)]) ++ [O.dct (keys (ns.map (·.1))) vs])[S.length]? = some (.lst ((bl cs (2 * k)).map dm)) := by
    rw [List.getElem?_append_left (by rw [List.length_append]; simp)]; exact new_at
  have g2 : ((S ++ [O.lst ((bl cs (2 * k)).map dm)]) ++ [O.dct (keys (ns.map (·.1))) vs])[(S ++ [O.lst ((bl cs (2 * k)).map dm)]).length]? = some (.dct (keys (ns.map (·.1))) vs) := new_at
  have hP : Pre S ((S ++ [O.lst ((bl cs (2 * k)).map dm)]) ++ [O.dct (keys (ns.map (·.1))) vs]) := Pre.app.trans Pre.app
  generalize (S ++ [O.lst ((bl cs (2 * k)).map dm)]) ++ [O.dct (keys (ns.map (·.1))) vs] = U at *
  generalize (S ++ [O.lst ((bl cs (2 * k)).map dm)]).length = r at *
  have es : seqK (.ref S.length) U = .ok (wkR S.length, ((bl cs (2 * k)).map dm).length) U := by
    show (match U[S.length]? with | some (.lst xs) => Py.R.ok (wkR S.length, xs.length) _ | _ => .bad) = _
    rw [g1]
  try simp -implicitDefEqProofs only [Sat_ok, Sat_err, Sat_bad, Sat_bind, Sat_ite, W_var, W_vars, W_c, W_nil, W_cons, W_tup, W_lst, W_new, W_bin, W_un, W_fn, W_dfn, W_call, W_callP, W_if, W_isi, W_val, W_setI, W_app, W_pop, W_popAt, W_ins, W_augI, andK_b, orK_b, W_and, W_or, notK_b, W_not, boolK_b, W_tval, W_tnot, W_tand, W_tor, W_tyes, W_mul, W_mod, W_fdiv, W_pow, W_idxT, W_idxL, Sx_next, Sx_seq, Sx_pass, Sx_expr, Sx_set, Sx_ret, Sx_retN, Sx_brk, Sx_cont, Sx_raise, Sx_if, Sx_ite, Sx_par, Sx_par3, Sx_asg, Sx_for, outK_ret, outK_err, outK_brk, outK_cont, loopK_ret, loopK_err, loopK_brk, loopK_cont, W_rng1, rngK_i, W_rng2, rngK2_i, W_seq, seqK_t, seqK_l, W_enumA, enumK_t, enumK_l, W_zip2, oCat_i, oSub_i, oNeg_i, oLt_i, oLe_i, oGt_i, oGe_i, oInt_i, oAbs_i, oMax2_i, oMin2_i, oGcd_i, oIsN_ap, oNotN_ap, oEq_i, oNe_i, oNe_b, oEq_b, gTup_ap, gAll_cons, gNm_ap, gAll_nil, List.set, decide_eq_true_eq, decide_eq_false_iff_not, if_true, if_false, Bool.not_eq_true, Bool.not_eq_true', Bool.false_eq_true, true_and, and_true, Option.some.injEq, exists_eq_left', exists_eq_left, beq_iff_eq, beq_eq_false_iff_ne, optR_some, R.bind, W_lc, atI_c0, atI_c1, atI_c2, Sx_try, tryK_ret, tryK_brk, tryK_cont, offK_ret, offK_brk, offK_cont, Bool.not_true, Bool.not_false, Bool.true_eq_false, not_true_eq_false, not_false_eq_true, true_implies, false_implies, implies_true, Bool.or_false, Bool.or_true, Bool.and_true, Bool.and_false, Bool.true_and, Bool.false_and, Bool.true_or, Bool.false_or, W_str1, strK_s, W_dstr1, strKF_s, st_starts, W_seqS, seqSK_s, W_sl, W_oPart, W_oNo, partK_i, decide_true, decide_false, in_sgn]
  rw [es]
  try simp -implicitDefEqProofs only [Sat_ok, Sat_err, Sat_bad, Sat_bind, Sat_ite, W_var, W_vars, W_c, W_nil, W_cons, W_tup, W_lst, W_new, W_bin, W_un, W_fn, W_dfn, W_call, W_callP, W_if, W_isi, W_val, W_setI, W_app, W_pop, W_popAt, W_ins, W_augI, andK_b, orK_b, W_and, W_or, notK_b, W_not, boolK_b, W_tval, W_tnot, W_tand, W_tor, W_tyes, W_mul, W_mod, W_fdiv, W_pow, W_idxT, W_idxL, Sx_next, Sx_seq, Sx_pass, Sx_expr, Sx_set, Sx_ret, Sx_retN, Sx_brk, Sx_cont, Sx_raise, Sx_if, Sx_ite, Sx_par, Sx_par3, Sx_asg, Sx_for, outK_ret, outK_err, outK_brk, outK_cont, loopK_ret, loopK_err, loopK_brk, loopK_cont, W_rng1, rngK_i, W_rng2, rngK2_i, W_seq, seqK_t, seqK_l, W_enumA, enumK_t, enumK_l, W_zip2, oCat_i, oSub_i, oNeg_i, oLt_i, oLe_i, oGt_i, oGe_i, oInt_i, oAbs_i, oMax2_i, oMin2_i, oGcd_i, oIsN_ap, oNotN_ap, oEq_i, oNe_i, oNe_b, oEq_b, gTup_ap, gAll_cons, gNm_ap, gAll_nil, List.set, decide_eq_true_eq, decide_eq_false_iff_not, if_true, if_false, Bool.not_eq_true, Bool.not_eq_true', Bool.false_eq_true, true_and, and_true, Option.some.injEq, exists_eq_left', exists_eq_left, beq_iff_eq, beq_eq_false_iff_ne, optR_some, R.bind, W_lc, atI_c0, atI_c1, atI_c2, Sx_try, tryK_ret, tryK_brk, tryK_cont, offK_ret, offK_brk, offK_cont, Bool.not_true, Bool.not_false, Bool.true_eq_false, not_true_eq_false, not_false_eq_true, true_implies, false_implies, implies_true, Bool.or_false, Bool.or_true, Bool.and_true, Bool.and_false, Bool.true_and, Bool.false_and, Bool.true_or, Bool.false_or, W_str1, strK_s, W_dstr1, strKF_s, st_starts, W_seqS, seqSK_s, W_sl, W_oPart, W_oNo, partK_i, decide_true, decide_false, in_sgn]
  refine Sx_forR (xs := (bl cs (2 * k)).map dm) (fun i e U' => U' = U ∧ ∃ a, e = [some (.str (sx cs)), some (.int (k : Nat)), some (.ref q), some (.ref S.length), some (.ref r), a] ∧ ((bl cs (2 * k)).take i).filter (fun m => !decide (m ∈ ns.map (·.1))) = []) ⟨rfl, none, rfl, rfl⟩ ?_ ?_ ?_
  · rintro i e _ ⟨rfl, a, rfl, h⟩
    exact g1
  · rintro i x e U' hx ⟨rfl, a, rfl, h⟩
    obtain ⟨hi, hx2⟩ := List.getElem?_eq_some_iff.mp hx
    rw [List.length_map] at hi
    have hxc : x = dm (bl cs (2 * k))[i] := by rw [← hx2, List.getElem_map]
    subst hxc
    refine ⟨_, rfl, ?_⟩
    have e1 : ∀ m, oInD true (dm m) (.ref r) U' = .ok (.bl (true != decide (m ∈ ns.map (·.1)))) U' := fun m => by
      show oInD true (.str (sx m)) _ _ = _
      rw [inD_r g2, kIn_keys]
    have hd : (bl cs (2 * k)).filter (fun m => !decide (m ∈ ns.map (·.1))) = ((bl cs (2 * k))[i] :: (bl cs (2 * k)).drop (i + 1)).filter (fun m => !decide (m ∈ ns.map (·.1))) := by
      conv => lhs; rw [← List.take_append_drop i (bl cs (2 * k)), List.drop_eq_getElem_cons hi]
      rw [List.filter_append, h, List.nil_append]
    simp -implicitDefEqProofs only [Sat_ok, Sat_err, Sat_bad, Sat_bind, Sat_ite, W_var, W_vars, W_c, W_nil, W_cons, W_tup, W_lst, W_new, W_bin, W_un, W_fn, W_dfn, W_call, W_callP, W_if, W_isi, W_val, W_setI, W_app, W_pop, W_popAt, W_ins, W_augI, andK_b, orK_b, W_and, W_or, notK_b, W_not, boolK_b, W_tval, W_tnot, W_tand, W_tor, W_tyes, W_mul, W_mod, W_fdiv, W_pow, W_idxT, W_idxL, Sx_next, Sx_seq, Sx_pass, Sx_expr, Sx_set, Sx_ret, Sx_retN, Sx_brk, Sx_cont, Sx_raise, Sx_if, Sx_ite, Sx_par, Sx_par3, Sx_asg, Sx_for, outK_ret, outK_err, outK_brk, outK_cont, loopK_ret, loopK_err, loopK_brk, loopK_cont, W_rng1, rngK_i, W_rng2, rngK2_i, W_seq, seqK_t, seqK_l, W_enumA, enumK_t, enumK_l, W_zip2, oCat_i, oSub_i, oNeg_i, oLt_i, oLe_i, oGt_i, oGe_i, oInt_i, oAbs_i, oMax2_i, oMin2_i, oGcd_i, oIsN_ap, oNotN_ap, oEq_i, oNe_i, oNe_b, oEq_b, gTup_ap, gAll_cons, gNm_ap, gAll_nil, List.set, decide_eq_true_eq, decide_eq_false_iff_not, if_true, if_false, Bool.not_eq_true, Bool.not_eq_true', Bool.false_eq_true, true_and, and_true, Option.some.injEq, exists_eq_left', exists_eq_left, beq_iff_eq, beq_eq_false_iff_ne, optR_some, R.bind, W_lc, atI_c0, atI_c1, atI_c2, Sx_try, tryK_ret, tryK_brk, tryK_cont, offK_ret, offK_brk, offK_cont, Bool.not_true, Bool.not_false, Bool.true_eq_false, not_true_eq_false, not_false_eq_true, true_implies, false_implies, implies_true, Bool.or_false, Bool.or_true, Bool.and_true, Bool.and_false, Bool.true_and, Bool.false_and, Bool.true_or, Bool.false_or, W_str1, strK_s, W_dstr1, strKF_s, st_starts, W_seqS, seqSK_s, W_sl, W_oPart, W_oNo, partK_i, decide_true, decide_false, in_sgn, e1]
    by_cases hm : (bl cs (2 * k))[i] ∈ ns.map (·.1)
    · rw [decide_eq_true hm]
      refine ⟨fun z => absurd z (by decide), fun _ => ⟨_, rfl, ?_⟩⟩
      rw [List.take_succ_eq_append_getElem hi, List.filter_append, h]
      simp only [List.filter_cons, decide_eq_true hm]
      rfl
    · rw [decide_eq_false hm]
      refine ⟨fun _ => ⟨?_, hP⟩, fun z => absurd z (by decide)⟩
      unfold fstN
      rw [hd]
      simp only [List.filter_cons, decide_eq_false hm]
      rfl
  · rintro e _ ⟨rfl, a, rfl, h⟩
    try simp -implicitDefEqProofs only [Sat_ok, Sat_err, Sat_bad, Sat_bind, Sat_ite, W_var, W_vars, W_c, W_nil, W_cons, W_tup, W_lst, W_new, W_bin, W_un, W_fn, W_dfn, W_call, W_callP, W_if, W_isi, W_val, W_setI, W_app, W_pop, W_popAt, W_ins, W_augI, andK_b, orK_b, W_and, W_or, notK_b, W_not, boolK_b, W_tval, W_tnot, W_tand, W_tor, W_tyes, W_mul, W_mod, W_fdiv, W_pow, W_idxT, W_idxL, Sx_next, Sx_seq, Sx_pass, Sx_expr, Sx_set, Sx_ret, Sx_retN, Sx_brk, Sx_cont, Sx_raise, Sx_if, Sx_ite, Sx_par, Sx_par3, Sx_asg, Sx_for, outK_ret, outK_err, outK_brk, outK_cont, loopK_ret, loopK_err, loopK_brk, loopK_cont, W_rng1, rngK_i, W_rng2, rngK2_i, W_seq, seqK_t, seqK_l, W_enumA, enumK_t, enumK_l, W_zip2, oCat_i, oSub_i, oNeg_i, oLt_i, oLe_i, oGt_i, oGe_i, oInt_i, oAbs_i, oMax2_i, oMin2_i, oGcd_i, oIsN_ap, oNotN_ap, oEq_i, oNe_i, oNe_b, oEq_b, gTup_ap, gAll_cons, gNm_ap, gAll_nil, List.set, decide_eq_true_eq, decide_eq_false_iff_not, if_true, if_false, Bool.not_eq_true, Bool.not_eq_true', Bool.false_eq_true, true_and, and_true, Option.some.injEq, exists_eq_left', exists_eq_left, beq_iff_eq, beq_eq_false_iff_ne, optR_some, R.bind, W_lc, atI_c0, atI_c1, atI_c2, Sx_try, tryK_ret, tryK_brk, tryK_cont, offK_ret, offK_brk, offK_cont, Bool.not_true, Bool.not_false, Bool.true_eq_false, not_true_eq_false, not_false_eq_true, true_implies, false_implies, implies_true, Bool.or_false, Bool.or_true, Bool.and_true, Bool.and_false, Bool.true_and, Bool.false_and, Bool.true_or, Bool.false_or, W_str1, strK_s, W_dstr1, strKF_s, st_starts, W_seqS, seqSK_s, W_sl, W_oPart, W_oNo, partK_i, decide_true, decide_false, in_sgn]
    refine ⟨?_, hP⟩
    rw [List.length_map, List.take_length] at h
    unfold fstN
    rw [h]
end K73

set_option maxHeartbeats 4000000
namespace K73
open Py
open PySem (Str sizeLine)
open TL (tl)
variable {n : Nat} {S : Store} {Γ : Calls} {cs : List Nat}
/-- what is walked: a list as a value, or one of the store -/
def Has (d : D) (S : Store) (xs : List D) : Prop := d = .lst xs ∨ ∃ q, d = .ref q ∧ S[q]? = some (.lst xs)
theorem Has.asL {d : D} {xs : List D} (h : Has d S xs) : asL d S = some xs := by
  rcases h with rfl | ⟨q, rfl, g⟩
  · rfl
  · exact asL_r g
/-- a loop over what stays -/
theorem Sx_forH {gt : Tgt} {F : DenS} {xs : List D} {d : D} {e : Env} {S : Store} {N : Env → Store → Prop} {O : RS → Prop} (I : Nat → Env → Store → Prop) (h0 : I 0 e S) (hS : ∀ i e S, I i e S → Has d S xs)
    (step : ∀ i x e S, xs[i]? = some x → I i e S → ∃ e1, gt x e S = some e1 ∧ Sx (F e1 S) (I (i + 1)) (loopK (I (i + 1)) N O))
    (fin : ∀ e S, I xs.length e S → N e S) : Sat (seqK d S) (fun w S1 => Sx (forW gt F w.1 w.2 0 e S1) N O) (fun c v S1 => O (.err c v e S1)) := by
  rcases hS 0 e S h0 with rfl | ⟨q, rfl, g⟩
  · exact Sx_forL I h0 step fin
  · have es : seqK (.ref q) S = .ok (wkR q, xs.length) S := by
      show (match S[q]? with | some (.lst xs) => Py.R.ok (wkR q, xs.length) _ | _ => .bad) = _
      rw [g]
    rw [es]
    refine Sx_forR I h0 (fun i e S h => ?_) step fin
    rcases hS i e S h with h | ⟨q2, h, g2⟩
    · cases h
    · cases h; exact g2
theorem lv_take {k i : Nat} (hi : i < (lv cs k).length) : ((lv cs k).take (i + 1)).flatMap (fun h => cs.map fun c => h ++ [c]) = ((lv cs k).take i).flatMap (fun h => cs.map fun c => h ++ [c]) ++ cs.map (fun c => (lv cs k)[i] ++ [c]) := by
  rw [List.take_succ_eq_append_getElem hi, List.flatMap_append, List.flatMap_cons, List.flatMap_nil, List.append_nil]
theorem ext_len {l : List (List Nat)} : (l.flatMap (fun h => cs.map fun c => h ++ [c])).length = l.length * cs.length := flat_len fun a _ => by rw [List.length_map]
/-- _law_messages -/
theorem lawmsgs_ok {n : Nat} (h : Sz cs n) (hc : cs.length ≤ 3) : OkR (runBody (d11 Γ) 8 [.str (sx cs), .int (n : Nat)] S) (fun d S' => d = .ref S.length ∧ Pre S S' ∧ S'[S.length]? = some (.lst ((bl cs n).map dm))) := by
  refine ⟨?_⟩
  have hn := h.n17
  unfold d11
  rw [Sat_body]; simp -implicitDefEqProofs only [List.map_cons, List.map_nil, List.length_cons, List.length_nil, List.replicate, List.cons_append, List.nil_append]
  try simp -implicitDefEqProofs only [Sat_ok, Sat_err, Sat_bad, Sat_bind, Sat_ite, W_var, W_vars, W_c, W_nil, W_cons, W_tup, W_lst, W_new, W_bin, W_un, W_fn, W_dfn, W_call, W_callP, W_if, W_isi, W_val, W_setI, W_app, W_pop, W_popAt, W_ins, W_augI, andK_b, orK_b, W_and, W_or, notK_b, W_not, boolK_b, W_tval, W_tnot, W_tand, W_tor, W_tyes, W_mul, W_mod, W_fdiv, W_pow, W_idxT, W_idxL, Sx_next, Sx_seq, Sx_pass, Sx_expr, Sx_set, Sx_ret, Sx_retN, Sx_brk, Sx_cont, Sx_raise, Sx_if, Sx_ite, Sx_par, Sx_par3, Sx_asg, Sx_for, outK_ret, outK_err, outK_brk, outK_cont, loopK_ret, loopK_err, loopK_brk, loopK_cont, W_rng1, rngK_i, W_rng2, rngK2_i, W_seq, seqK_t, seqK_l, W_enumA, enumK_t, enumK_l, W_zip2, oCat_i, oSub_i, oNeg_i, oLt_i, oLe_i, oGt_i, oGe_i, oInt_i, oAbs_i, oMax2_i, oMin2_i, oGcd_i, oIsN_ap, oNotN_ap, oEq_i, oNe_i, oNe_b, oEq_b, gTup_ap, gAll_cons, gNm_ap, gAll_nil, List.set, decide_eq_true_eq, decide_eq_false_iff_not, if_true, if_false, Bool.not_eq_true, Bool.not_eq_true', Bool.false_eq_true, true_and, and_true, Option.some.injEq, exists_eq_left', exists_eq_left, beq_iff_eq, beq_eq_false_iff_ne, optR_some, R.bind, W_lc, atI_c0, atI_c1, atI_c2, Sx_try, tryK_ret, tryK_brk, tryK_cont, offK_ret, offK_brk, offK_cont, Bool.not_true, Bool.not_false, Bool.true_eq_false, not_true_eq_false, not_false_eq_true, true_implies, false_implies, implies_true, Bool.or_false, Bool.or_true, Bool.and_true, Bool.and_false, Bool.true_and, Bool.false_and, Bool.true_or, Bool.false_or, W_str1, strK_s, W_dstr1, strKF_s, st_starts, W_seqS, seqSK_s, W_sl, W_oPart, W_oNo, partK_i, decide_true, decide_false, in_sgn]
  refine ⟨inR_of (by omega) (by omega), ?_⟩
  refine Sx_rng n (Int.toNat_natCast _) (fun i e U => Pre S U ∧ U[S.length]? = some (.lst ((bl cs i).map dm)) ∧ ∃ d a b c f, e = [some (.str (sx cs)), some (.int (n : Nat)), some (.ref S.length), some d, a, b, c, f] ∧ (d = .lst ((lv cs i).map dm) ∨ ∃ q, d = .ref q ∧ S.length < q ∧ U[q]? = some (.lst ((lv cs i).map dm)))) ⟨Pre.app, new_at, _, none, none, none, none, rfl, .inl rfl⟩ ?_ ?_
  · rintro i e U hi ⟨hP, hg, dl, a, b, c, f, rfl, hd⟩
    have h1 := h.bl (k := i) (by omega)
    have h2 := h.lv (k := i) (by omega)
    have hal : asL dl U = some ((lv cs i).map dm) := by
      rcases hd with rfl | ⟨q, rfl, _, g⟩
      · rfl
      · exact asL_r g
    simp -implicitDefEqProofs only [Sat_ok, Sat_err, Sat_bad, Sat_bind, Sat_ite, W_var, W_vars, W_c, W_nil, W_cons, W_tup, W_lst, W_new, W_bin, W_un, W_fn, W_dfn, W_call, W_callP, W_if, W_isi, W_val, W_setI, W_app, W_pop, W_popAt, W_ins, W_augI, andK_b, orK_b, W_and, W_or, notK_b, W_not, boolK_b, W_tval, W_tnot, W_tand, W_tor, W_tyes, W_mul, W_mod, W_fdiv, W_pow, W_idxT, W_idxL, Sx_next, Sx_seq, Sx_pass, Sx_expr, Sx_set, Sx_ret, Sx_retN, Sx_brk, Sx_cont, Sx_raise, Sx_if, Sx_ite, Sx_par, Sx_par3, Sx_asg, Sx_for, outK_ret, outK_err, outK_brk, outK_cont, loopK_ret, loopK_err, loopK_brk, loopK_cont, W_rng1, rngK_i, W_rng2, rngK2_i, W_seq, seqK_t, seqK_l, W_enumA, enumK_t, enumK_l, W_zip2, oCat_i, oSub_i, oNeg_i, oLt_i, oLe_i, oGt_i, oGe_i, oInt_i, oAbs_i, oMax2_i, oMin2_i, oGcd_i, oIsN_ap, oNotN_ap, oEq_i, oNe_i, oNe_b, oEq_b, gTup_ap, gAll_cons, gNm_ap, gAll_nil, List.set, decide_eq_true_eq, decide_eq_false_iff_not, if_true, if_false, Bool.not_eq_true, Bool.not_eq_true', Bool.false_eq_true, true_and, and_true, Option.some.injEq, exists_eq_left', exists_eq_left, beq_iff_eq, beq_eq_false_iff_ne, optR_some, R.bind, W_lc, atI_c0, atI_c1, atI_c2, Sx_try, tryK_ret, tryK_brk, tryK_cont, offK_ret, offK_brk, offK_cont, Bool.not_true, Bool.not_false, Bool.true_eq_false, not_true_eq_false, not_false_eq_true, true_implies, false_implies, implies_true, Bool.or_false, Bool.or_true, Bool.and_true, Bool.and_false, Bool.true_and, Bool.false_and, Bool.true_or, Bool.false_or, W_str1, strK_s, W_dstr1, strKF_s, st_starts, W_seqS, seqSK_s, W_sl, W_oPart, W_oNo, partK_i, decide_true, decide_false, in_sgn, W_ext, W_rcv, rcv_ok hg]
    rw [ext_ok hg hal (by rw [List.length_map, List.length_map]; omega)]
    have hSl := lt_of_get hg
    have eb : (bl cs i).map dm ++ (lv cs i).map dm = (bl cs (i + 1)).map dm := by
      rw [← List.map_append]; rfl
    rw [eb]
    have hP1 : Pre S (U.set S.length (.lst ((bl cs (i + 1)).map dm))) := hP.set (Nat.le_refl _)
    have hg1 : (U.set S.length (.lst ((bl cs (i + 1)).map dm)))[S.length]? = some (.lst ((bl cs (i + 1)).map dm)) := List.getElem?_set_self hSl
    have hd1 : dl = .lst ((lv cs i).map dm) ∨ ∃ q, dl = .ref q ∧ S.length < q ∧ (U.set S.length (.lst ((bl cs (i + 1)).map dm)))[q]? = some (.lst ((lv cs i).map dm)) := by
      rcases hd with rfl | ⟨q, rfl, hq, g⟩
      · exact .inl rfl
      · exact .inr ⟨q, rfl, hq, by rw [List.getElem?_set_ne (by omega)]; exact g⟩
    have hUl : S.length < (U.set S.length (.lst ((bl cs (i + 1)).map dm))).length := by rw [List.length_set]; exact hSl
    generalize U.set S.length (.lst ((bl cs (i + 1)).map dm)) = U1 at *
    try simp -implicitDefEqProofs only [Sat_ok, Sat_err, Sat_bad, Sat_bind, Sat_ite, W_var, W_vars, W_c, W_nil, W_cons, W_tup, W_lst, W_new, W_bin, W_un, W_fn, W_dfn, W_call, W_callP, W_if, W_isi, W_val, W_setI, W_app, W_pop, W_popAt, W_ins, W_augI, andK_b, orK_b, W_and, W_or, notK_b, W_not, boolK_b, W_tval, W_tnot, W_tand, W_tor, W_tyes, W_mul, W_mod, W_fdiv, W_pow, W_idxT, W_idxL, Sx_next, Sx_seq, Sx_pass, Sx_expr, Sx_set, Sx_ret, Sx_retN, Sx_brk, Sx_cont, Sx_raise, Sx_if, Sx_ite, Sx_par, Sx_par3, Sx_asg, Sx_for, outK_ret, outK_err, outK_brk, outK_cont, loopK_ret, loopK_err, loopK_brk, loopK_cont, W_rng1, rngK_i, W_rng2, rngK2_i, W_seq, seqK_t, seqK_l, W_enumA, enumK_t, enumK_l, W_zip2, oCat_i, oSub_i, oNeg_i, oLt_i, oLe_i, oGt_i, oGe_i, oInt_i, oAbs_i, oMax2_i, oMin2_i, oGcd_i, oIsN_ap, oNotN_ap, oEq_i, oNe_i, oNe_b, oEq_b, gTup_ap, gAll_cons, gNm_ap, gAll_nil, List.set, decide_eq_true_eq, decide_eq_false_iff_not, if_true, if_false, Bool.not_eq_true, Bool.not_eq_true', Bool.false_eq_true, true_and, and_true, Option.some.injEq, exists_eq_left', exists_eq_left, beq_iff_eq, beq_eq_false_iff_ne, optR_some, R.bind, W_lc, atI_c0, atI_c1, atI_c2, Sx_try, tryK_ret, tryK_brk, tryK_cont, offK_ret, offK_brk, offK_cont, Bool.not_true, Bool.not_false, Bool.true_eq_false, not_true_eq_false, not_false_eq_true, true_implies, false_implies, implies_true, Bool.or_false, Bool.or_true, Bool.and_true, Bool.and_false, Bool.true_and, Bool.false_and, Bool.true_or, Bool.false_or, W_str1, strK_s, W_dstr1, strKF_s, st_starts, W_seqS, seqSK_s, W_sl, W_oPart, W_oNo, partK_i, decide_true, decide_false, in_sgn]
    refine Sx_forH (xs := (lv cs i).map dm) (fun j e U => ∃ V, U = U1 ++ [.lst V] ∧ V = (((lv cs i).take j).flatMap (fun h => cs.map fun c => h ++ [c])).map dm ∧ ∃ a c f, e = [some (.str (sx cs)), some (.int (n : Nat)), some (.ref S.length), some dl, a, some (.ref U1.length), c, f]) ⟨_, rfl, rfl, _, _, _, rfl⟩ ?_ ?_ ?_
    · rintro j e U ⟨V, rfl, _, _, _, _, rfl⟩
      rcases hd1 with rfl | ⟨q, rfl, hq, g⟩
      · exact .inl rfl
      · exact .inr ⟨q, rfl, by rw [List.getElem?_append_left (lt_of_get g)]; exact g⟩
    · rintro j x e U hx ⟨V, rfl, hV, a, c, f, rfl⟩
      obtain ⟨hj, hx2⟩ := List.getElem?_eq_some_iff.mp hx
      rw [List.length_map] at hj
      have hxc : x = dm (lv cs i)[j] := by rw [← hx2, List.getElem_map]
      subst hxc
      have hm := (lv_mem (List.getElem_mem hj)).1
      have ht := lv_take hj
      have hVl : V.length = j * cs.length := by
        rw [hV, List.length_map, ext_len, List.length_take, Nat.min_eq_left (by omega)]
      have hVl2 : j * cs.length ≤ 729 * 3 := Nat.mul_le_mul (by omega) hc
      generalize (lv cs i)[j] = m at *
      refine ⟨_, rfl, ?_⟩
      simp -implicitDefEqProofs only [Sat_ok, Sat_err, Sat_bad, Sat_bind, Sat_ite, W_var, W_vars, W_c, W_nil, W_cons, W_tup, W_lst, W_new, W_bin, W_un, W_fn, W_dfn, W_call, W_callP, W_if, W_isi, W_val, W_setI, W_app, W_pop, W_popAt, W_ins, W_augI, andK_b, orK_b, W_and, W_or, notK_b, W_not, boolK_b, W_tval, W_tnot, W_tand, W_tor, W_tyes, W_mul, W_mod, W_fdiv, W_pow, W_idxT, W_idxL, Sx_next, Sx_seq, Sx_pass, Sx_expr, Sx_set, Sx_ret, Sx_retN, Sx_brk, Sx_cont, Sx_raise, Sx_if, Sx_ite, Sx_par, Sx_par3, Sx_asg, Sx_for, outK_ret, outK_err, outK_brk, outK_cont, loopK_ret, loopK_err, loopK_brk, loopK_cont, W_rng1, rngK_i, W_rng2, rngK2_i, W_seq, seqK_t, seqK_l, W_enumA, enumK_t, enumK_l, W_zip2, oCat_i, oSub_i, oNeg_i, oLt_i, oLe_i, oGt_i, oGe_i, oInt_i, oAbs_i, oMax2_i, oMin2_i, oGcd_i, oIsN_ap, oNotN_ap, oEq_i, oNe_i, oNe_b, oEq_b, gTup_ap, gAll_cons, gNm_ap, gAll_nil, List.set, decide_eq_true_eq, decide_eq_false_iff_not, if_true, if_false, Bool.not_eq_true, Bool.not_eq_true', Bool.false_eq_true, true_and, and_true, Option.some.injEq, exists_eq_left', exists_eq_left, beq_iff_eq, beq_eq_false_iff_ne, optR_some, R.bind, W_lc, atI_c0, atI_c1, atI_c2, Sx_try, tryK_ret, tryK_brk, tryK_cont, offK_ret, offK_brk, offK_cont, Bool.not_true, Bool.not_false, Bool.true_eq_false, not_true_eq_false, not_false_eq_true, true_implies, false_implies, implies_true, Bool.or_false, Bool.or_true, Bool.and_true, Bool.and_false, Bool.true_and, Bool.false_and, Bool.true_or, Bool.false_or, W_str1, strK_s, W_dstr1, strKF_s, st_starts, W_seqS, seqSK_s, W_sl, W_oPart, W_oNo, partK_i, decide_true, decide_false, in_sgn, W_ext, W_rcv, rcv_ok new_at, seqSK_s]
      refine Sat_lcP (fun y => match y with | .str z => .str (sx m ++ z) | _ => .non) ?_ ?_ ?_ ?_
      · intro y hy S' _
        obtain ⟨c', _, rfl⟩ := List.mem_map.mp (show y ∈ cs.map sgn from hy)
        refine ⟨_, rfl, ?_⟩
        show Sat (oCat (.str (sx m)) (.str (sx [c'])) _) _ _
        rw [add_s (by rw [mk_len, mk_len, hm]; simp; omega)]
        exact ⟨rfl, rfl⟩
      · intro y hy
        obtain ⟨c', _, rfl⟩ := List.mem_map.mp (show y ∈ cs.map sgn from hy)
        rfl
      · rw [signs_mk, List.length_map, slz]; omega
      · have e1 : (signs (sx cs)).map (fun y => match y with | .str z => .str (sx m ++ z) | _ => .non) = (cs.map (fun c => m ++ [c])).map dm := by
          rw [signs_mk, List.map_map, List.map_map]
          refine List.map_congr_left fun c _ => ?_
          show D.str (sx m ++ sx [c]) = dm (m ++ [c])
          rw [mk_app]; rfl
        rw [e1, ext_ok new_at asL_l (by rw [List.length_map, List.length_map]; omega), List.set_append_right _ _ (Nat.le_refl _), Nat.sub_self]
        refine ⟨_, rfl, ?_, _, _, _, rfl⟩
        rw [ht, List.map_append, hV]
    · rintro e U ⟨V, rfl, hV, a, c, f, rfl⟩
      try simp -implicitDefEqProofs only [Sat_ok, Sat_err, Sat_bad, Sat_bind, Sat_ite, W_var, W_vars, W_c, W_nil, W_cons, W_tup, W_lst, W_new, W_bin, W_un, W_fn, W_dfn, W_call, W_callP, W_if, W_isi, W_val, W_setI, W_app, W_pop, W_popAt, W_ins, W_augI, andK_b, orK_b, W_and, W_or, notK_b, W_not, boolK_b, W_tval, W_tnot, W_tand, W_tor, W_tyes, W_mul, W_mod, W_fdiv, W_pow, W_idxT, W_idxL, Sx_next, Sx_seq, Sx_pass, Sx_expr, Sx_set, Sx_ret, Sx_retN, Sx_brk, Sx_cont, Sx_raise, Sx_if, Sx_ite, Sx_par, Sx_par3, Sx_asg, Sx_for, outK_ret, outK_err, outK_brk, outK_cont, loopK_ret, loopK_err, loopK_brk, loopK_cont, W_rng1, rngK_i, W_rng2, rngK2_i, W_seq, seqK_t, seqK_l, W_enumA, enumK_t, enumK_l, W_zip2, oCat_i, oSub_i, oNeg_i, oLt_i, oLe_i, oGt_i, oGe_i, oInt_i, oAbs_i, oMax2_i, oMin2_i, oGcd_i, oIsN_ap, oNotN_ap, oEq_i, oNe_i, oNe_b, oEq_b, gTup_ap, gAll_cons, gNm_ap, gAll_nil, List.set, decide_eq_true_eq, decide_eq_false_iff_not, if_true, if_false, Bool.not_eq_true, Bool.not_eq_true', Bool.false_eq_true, true_and, and_true, Option.some.injEq, exists_eq_left', exists_eq_left, beq_iff_eq, beq_eq_false_iff_ne, optR_some, R.bind, W_lc, atI_c0, atI_c1, atI_c2, Sx_try, tryK_ret, tryK_brk, tryK_cont, offK_ret, offK_brk, offK_cont, Bool.not_true, Bool.not_false, Bool.true_eq_false, not_true_eq_false, not_false_eq_true, true_implies, false_implies, implies_true, Bool.or_false, Bool.or_true, Bool.and_true, Bool.and_false, Bool.true_and, Bool.false_and, Bool.true_or, Bool.false_or, W_str1, strK_s, W_dstr1, strKF_s, st_starts, W_seqS, seqSK_s, W_sl, W_oPart, W_oNo, partK_i, decide_true, decide_false, in_sgn]
      refine ⟨hP1.trans Pre.app, by rw [List.getElem?_append_left hUl]; exact hg1, _, _, _, _, _, rfl, .inr ⟨_, rfl, hUl, ?_⟩⟩
      rw [new_at, hV, List.length_map, List.take_length]
      conv => rhs; unfold lv
  · rintro e U ⟨hP, hg, dl, a, b, c, f, rfl, hd⟩
    try simp -implicitDefEqProofs only [Sat_ok, Sat_err, Sat_bad, Sat_bind, Sat_ite, W_var, W_vars, W_c, W_nil, W_cons, W_tup, W_lst, W_new, W_bin, W_un, W_fn, W_dfn, W_call, W_callP, W_if, W_isi, W_val, W_setI, W_app, W_pop, W_popAt, W_ins, W_augI, andK_b, orK_b, W_and, W_or, notK_b, W_not, boolK_b, W_tval, W_tnot, W_tand, W_tor, W_tyes, W_mul, W_mod, W_fdiv, W_pow, W_idxT, W_idxL, Sx_next, Sx_seq, Sx_pass, Sx_expr, Sx_set, Sx_ret, Sx_retN, Sx_brk, Sx_cont, Sx_raise, Sx_if, Sx_ite, Sx_par, Sx_par3, Sx_asg, Sx_for, outK_ret, outK_err, outK_brk, outK_cont, loopK_ret, loopK_err, loopK_brk, loopK_cont, W_rng1, rngK_i, W_rng2, rngK2_i, W_seq, seqK_t, seqK_l, W_enumA, enumK_t, enumK_l, W_zip2, oCat_i, oSub_i, oNeg_i, oLt_i, oLe_i, oGt_i, oGe_i, oInt_i, oAbs_i, oMax2_i, oMin2_i, oGcd_i, oIsN_ap, oNotN_ap, oEq_i, oNe_i, oNe_b, oEq_b, gTup_ap, gAll_cons, gNm_ap, gAll_nil, List.set, decide_eq_true_eq, decide_eq_false_iff_not, if_true, if_false, Bool.not_eq_true, Bool.not_eq_true', Bool.false_eq_true, true_and, and_true, Option.some.injEq, exists_eq_left', exists_eq_left, beq_iff_eq, beq_eq_false_iff_ne, optR_some, R.bind, W_lc, atI_c0, atI_c1, atI_c2, Sx_try, tryK_ret, tryK_brk, tryK_cont, offK_ret, offK_brk, offK_cont, Bool.not_true, Bool.not_false, Bool.true_eq_false, not_true_eq_false, not_false_eq_true, true_implies, false_implies, implies_true, Bool.or_false, Bool.or_true, Bool.and_true, Bool.and_false, Bool.true_and, Bool.false_and, Bool.true_or, Bool.false_or, W_str1, strK_s, W_dstr1, strKF_s, st_starts, W_seqS, seqSK_s, W_sl, W_oPart, W_oNo, partK_i, decide_true, decide_false, in_sgn]
    exact ⟨hP, hg⟩
/-- _law_well -/
theorem bag_ok {ns : List Int} {k : Nat} (hl : ns.length ≤ 63) (hk : k ≤ 2) : Sat (runBody (d8 Γ) 3 [.fls ns, .int (k : Nat)] S) (fun d S' => d = .ref S.length ∧ PotC 0 S' S.length ∧ ∃ o, S' = S ++ [o]) (fun _ _ _ => False) := by
  have m2 : mulOk (13 : Int) (k : Int) = true := mulOk_small (by decide) (sm (B := 10) (by omega) (by decide))
  have hM : (0 : Int) < 1000000000000000000000000000000000 + 61 := by decide
  have key : ∀ z A : Int, mulOk (z.fmod (1000000000000000000000000000000000 + 61)) 41 = true ∧ PotC 0 (S ++ [.lst [.int (max 0 A), .int (z.fmod (1000000000000000000000000000000000 + 61) * 41 + 13 * (k : Int) + 5), .int 0]]) S.length := fun z A => by
    have h0 := Int.fmod_nonneg_of_pos z hM
    have h1 := Int.fmod_lt_of_pos z hM
    generalize z.fmod (1000000000000000000000000000000000 + 61) = y at *
    exact ⟨mulOk_small (sm (B := 10000000000000000000000000000000000) (by omega) (by decide)) (by decide), _, _, _, new_at, by omega, by omega, by omega, by omega, by omega⟩
  have hM0 : (1000000000000000000000000000000000 + 61 : Int) ≠ 0 := by decide
  unfold d8
  rw [Sat_body]; simp -implicitDefEqProofs only [List.map_cons, List.map_nil, List.length_cons, List.length_nil, List.replicate, List.cons_append, List.nil_append]
  have lf : oLen [.fls ns] S = .ok (.int ns.length) S := by
    show Py.R.ok (D.int ((ns.map D.int).length : Nat)) S = _
    rw [List.length_map]
  by_cases h : k < ns.length
  · have hi : (k : Int) < (ns.length : Int) := by omega
    have ix : oIdx (.fls ns) (.int k) S = .ok (.int ns[k]) S := by
      have hk : k < (ns.map D.int).length := by rw [List.length_map]; exact h
      have := atI_nat hk
      show (match L2.atI (ns.map D.int) k with | some v => Py.R.ok v S | none => .bad) = _
      rw [this]
      simp
    simp -implicitDefEqProofs only [Sat_ok, Sat_err, Sat_bad, Sat_bind, Sat_ite, W_var, W_vars, W_c, W_nil, W_cons, W_tup, W_lst, W_new, W_bin, W_un, W_fn, W_dfn, W_call, W_callP, W_if, W_isi, W_val, W_setI, W_app, W_pop, W_popAt, W_ins, W_augI, andK_b, orK_b, W_and, W_or, notK_b, W_not, boolK_b, W_tval, W_tnot, W_tand, W_tor, W_tyes, W_mul, W_mod, W_fdiv, W_pow, W_idxT, W_idxL, Sx_next, Sx_seq, Sx_pass, Sx_expr, Sx_set, Sx_ret, Sx_retN, Sx_brk, Sx_cont, Sx_raise, Sx_if, Sx_ite, Sx_par, Sx_par3, Sx_asg, Sx_for, outK_ret, outK_err, outK_brk, outK_cont, loopK_ret, loopK_err, loopK_brk, loopK_cont, W_rng1, rngK_i, W_rng2, rngK2_i, W_seq, seqK_t, seqK_l, W_enumA, enumK_t, enumK_l, W_zip2, oCat_i, oSub_i, oNeg_i, oLt_i, oLe_i, oGt_i, oGe_i, oInt_i, oAbs_i, oMax2_i, oMin2_i, oGcd_i, oIsN_ap, oNotN_ap, oEq_i, oNe_i, oNe_b, oEq_b, gTup_ap, gAll_cons, gNm_ap, gAll_nil, List.set, decide_eq_true_eq, decide_eq_false_iff_not, if_true, if_false, Bool.not_eq_true, Bool.not_eq_true', Bool.false_eq_true, true_and, and_true, Option.some.injEq, exists_eq_left', exists_eq_left, beq_iff_eq, beq_eq_false_iff_ne, optR_some, R.bind, W_lc, atI_c0, atI_c1, atI_c2, Sx_try, tryK_ret, tryK_brk, tryK_cont, offK_ret, offK_brk, offK_cont, Bool.not_true, Bool.not_false, Bool.true_eq_false, not_true_eq_false, not_false_eq_true, true_implies, false_implies, implies_true, Bool.or_false, Bool.or_true, Bool.and_true, Bool.and_false, Bool.true_and, Bool.false_and, Bool.true_or, Bool.false_or, W_str1, strK_s, W_dstr1, strKF_s, st_starts, W_seqS, seqSK_s, W_sl, W_oPart, W_oNo, partK_i, decide_true, decide_false, in_sgn, lf, ix, pow18, pow33, oRep_i m2, oRep_i (key _ 0).1]
    exact ⟨fun _ => ⟨hM0, (key _ _).2, _, rfl⟩, fun h => absurd hi h⟩
  · have hi : ¬ (k : Int) < (ns.length : Int) := by omega
    simp -implicitDefEqProofs only [Sat_ok, Sat_err, Sat_bad, Sat_bind, Sat_ite, W_var, W_vars, W_c, W_nil, W_cons, W_tup, W_lst, W_new, W_bin, W_un, W_fn, W_dfn, W_call, W_callP, W_if, W_isi, W_val, W_setI, W_app, W_pop, W_popAt, W_ins, W_augI, andK_b, orK_b, W_and, W_or, notK_b, W_not, boolK_b, W_tval, W_tnot, W_tand, W_tor, W_tyes, W_mul, W_mod, W_fdiv, W_pow, W_idxT, W_idxL, Sx_next, Sx_seq, Sx_pass, Sx_expr, Sx_set, Sx_ret, Sx_retN, Sx_brk, Sx_cont, Sx_raise, Sx_if, Sx_ite, Sx_par, Sx_par3, Sx_asg, Sx_for, outK_ret, outK_err, outK_brk, outK_cont, loopK_ret, loopK_err, loopK_brk, loopK_cont, W_rng1, rngK_i, W_rng2, rngK2_i, W_seq, seqK_t, seqK_l, W_enumA, enumK_t, enumK_l, W_zip2, oCat_i, oSub_i, oNeg_i, oLt_i, oLe_i, oGt_i, oGe_i, oInt_i, oAbs_i, oMax2_i, oMin2_i, oGcd_i, oIsN_ap, oNotN_ap, oEq_i, oNe_i, oNe_b, oEq_b, gTup_ap, gAll_cons, gNm_ap, gAll_nil, List.set, decide_eq_true_eq, decide_eq_false_iff_not, if_true, if_false, Bool.not_eq_true, Bool.not_eq_true', Bool.false_eq_true, true_and, and_true, Option.some.injEq, exists_eq_left', exists_eq_left, beq_iff_eq, beq_eq_false_iff_ne, optR_some, R.bind, W_lc, atI_c0, atI_c1, atI_c2, Sx_try, tryK_ret, tryK_brk, tryK_cont, offK_ret, offK_brk, offK_cont, Bool.not_true, Bool.not_false, Bool.true_eq_false, not_true_eq_false, not_false_eq_true, true_implies, false_implies, implies_true, Bool.or_false, Bool.or_true, Bool.and_true, Bool.and_false, Bool.true_and, Bool.false_and, Bool.true_or, Bool.false_or, W_str1, strK_s, W_dstr1, strKF_s, st_starts, W_seqS, seqSK_s, W_sl, W_oPart, W_oNo, partK_i, decide_true, decide_false, in_sgn, lf, pow18, pow33, oRep_i m2, oRep_i (key _ 0).1]
    exact ⟨fun h => absurd h hi, fun _ => ⟨hM0, (key _ _).2, _, rfl⟩⟩
theorem pow8 : oPow (.int 10) (.int 8) S = .ok (.int 100000000) S := by rw [oPow_i (by decide)]; rfl
/-- _law_number -/
theorem num_ok {N p : Nat} (tk : TkC Γ 9) (hP : PotC N S p) (hN : N + 2 ≤ 1000000) :
    Sat (runBody (d15 Γ) 2 [.ref p] S) (fun d S' => (∃ a b : Int, d = .tup [.int a, .int b] ∧ 1 ≤ b ∧ Nat.gcd a.natAbs b.natAbs = 1) ∧ PotC (N + 2) S' p ∧ Fr1 S S' p) (fun _ _ _ => False) := by
  have m9 : mulOk 9 100000000 = true := by decide
  unfold d15
  rw [Sat_body]; simp -implicitDefEqProofs only [List.map_cons, List.map_nil, List.length_cons, List.length_nil, List.replicate, List.cons_append, List.nil_append]
  simp -implicitDefEqProofs only [Sat_ok, Sat_err, Sat_bad, Sat_bind, Sat_ite, W_var, W_vars, W_c, W_nil, W_cons, W_tup, W_lst, W_new, W_bin, W_un, W_fn, W_dfn, W_call, W_callP, W_if, W_isi, W_val, W_setI, W_app, W_pop, W_popAt, W_ins, W_augI, andK_b, orK_b, W_and, W_or, notK_b, W_not, boolK_b, W_tval, W_tnot, W_tand, W_tor, W_tyes, W_mul, W_mod, W_fdiv, W_pow, W_idxT, W_idxL, Sx_next, Sx_seq, Sx_pass, Sx_expr, Sx_set, Sx_ret, Sx_retN, Sx_brk, Sx_cont, Sx_raise, Sx_if, Sx_ite, Sx_par, Sx_par3, Sx_asg, Sx_for, outK_ret, outK_err, outK_brk, outK_cont, loopK_ret, loopK_err, loopK_brk, loopK_cont, W_rng1, rngK_i, W_rng2, rngK2_i, W_seq, seqK_t, seqK_l, W_enumA, enumK_t, enumK_l, W_zip2, oCat_i, oSub_i, oNeg_i, oLt_i, oLe_i, oGt_i, oGe_i, oInt_i, oAbs_i, oMax2_i, oMin2_i, oGcd_i, oIsN_ap, oNotN_ap, oEq_i, oNe_i, oNe_b, oEq_b, gTup_ap, gAll_cons, gNm_ap, gAll_nil, List.set, decide_eq_true_eq, decide_eq_false_iff_not, if_true, if_false, Bool.not_eq_true, Bool.not_eq_true', Bool.false_eq_true, true_and, and_true, Option.some.injEq, exists_eq_left', exists_eq_left, beq_iff_eq, beq_eq_false_iff_ne, optR_some, R.bind, W_lc, atI_c0, atI_c1, atI_c2, Sx_try, tryK_ret, tryK_brk, tryK_cont, offK_ret, offK_brk, offK_cont, Bool.not_true, Bool.not_false, Bool.true_eq_false, not_true_eq_false, not_false_eq_true, true_implies, false_implies, implies_true, Bool.or_false, Bool.or_true, Bool.and_true, Bool.and_false, Bool.true_and, Bool.false_and, Bool.true_or, Bool.false_or, W_str1, strK_s, W_dstr1, strKF_s, st_starts, W_seqS, seqSK_s, W_sl, W_oPart, W_oNo, partK_i, decide_true, decide_false, in_sgn, pow8, oRep_i m9]
  refine Sat_use0 (tk hP (by decide) (by decide) (by omega)) ?_
  rintro _ S1 ⟨v, rfl, v0, v1, P1, F1⟩
  simp -implicitDefEqProofs only [Sat_ok, Sat_err, Sat_bad, Sat_bind, Sat_ite, W_var, W_vars, W_c, W_nil, W_cons, W_tup, W_lst, W_new, W_bin, W_un, W_fn, W_dfn, W_call, W_callP, W_if, W_isi, W_val, W_setI, W_app, W_pop, W_popAt, W_ins, W_augI, andK_b, orK_b, W_and, W_or, notK_b, W_not, boolK_b, W_tval, W_tnot, W_tand, W_tor, W_tyes, W_mul, W_mod, W_fdiv, W_pow, W_idxT, W_idxL, Sx_next, Sx_seq, Sx_pass, Sx_expr, Sx_set, Sx_ret, Sx_retN, Sx_brk, Sx_cont, Sx_raise, Sx_if, Sx_ite, Sx_par, Sx_par3, Sx_asg, Sx_for, outK_ret, outK_err, outK_brk, outK_cont, loopK_ret, loopK_err, loopK_brk, loopK_cont, W_rng1, rngK_i, W_rng2, rngK2_i, W_seq, seqK_t, seqK_l, W_enumA, enumK_t, enumK_l, W_zip2, oCat_i, oSub_i, oNeg_i, oLt_i, oLe_i, oGt_i, oGe_i, oInt_i, oAbs_i, oMax2_i, oMin2_i, oGcd_i, oIsN_ap, oNotN_ap, oEq_i, oNe_i, oNe_b, oEq_b, gTup_ap, gAll_cons, gNm_ap, gAll_nil, List.set, decide_eq_true_eq, decide_eq_false_iff_not, if_true, if_false, Bool.not_eq_true, Bool.not_eq_true', Bool.false_eq_true, true_and, and_true, Option.some.injEq, exists_eq_left', exists_eq_left, beq_iff_eq, beq_eq_false_iff_ne, optR_some, R.bind, W_lc, atI_c0, atI_c1, atI_c2, Sx_try, tryK_ret, tryK_brk, tryK_cont, offK_ret, offK_brk, offK_cont, Bool.not_true, Bool.not_false, Bool.true_eq_false, not_true_eq_false, not_false_eq_true, true_implies, false_implies, implies_true, Bool.or_false, Bool.or_true, Bool.and_true, Bool.and_false, Bool.true_and, Bool.false_and, Bool.true_or, Bool.false_or, W_str1, strK_s, W_dstr1, strKF_s, st_starts, W_seqS, seqSK_s, W_sl, W_oPart, W_oNo, partK_i, decide_true, decide_false, in_sgn, pow8, oRep_i m9]
  refine ⟨fun _ => ?_, fun _ => ⟨fun _ => ?_, fun _ => ?_⟩⟩
  · refine Sat_use0 (tk P1 (by decide) (by decide) (by omega)) ?_
    rintro _ S2 ⟨w, rfl, w0, w1, P2, F2⟩
    exact ⟨⟨_, _, rfl, by decide, by simp⟩, P2, F1.trans F2⟩
  · refine Sat_use0 (tk P1 (by decide) (by decide) (by omega)) ?_
    rintro _ S2 ⟨w, rfl, w0, w1, P2, F2⟩
    have mw : mulOk 2 w = true := mulOk_small (by decide) (sm (B := 100) (by omega) (by decide))
    simp -implicitDefEqProofs only [Sat_ok, Sat_err, Sat_bad, Sat_bind, Sat_ite, W_var, W_vars, W_c, W_nil, W_cons, W_tup, W_lst, W_new, W_bin, W_un, W_fn, W_dfn, W_call, W_callP, W_if, W_isi, W_val, W_setI, W_app, W_pop, W_popAt, W_ins, W_augI, andK_b, orK_b, W_and, W_or, notK_b, W_not, boolK_b, W_tval, W_tnot, W_tand, W_tor, W_tyes, W_mul, W_mod, W_fdiv, W_pow, W_idxT, W_idxL, Sx_next, Sx_seq, Sx_pass, Sx_expr, Sx_set, Sx_ret, Sx_retN, Sx_brk, Sx_cont, Sx_raise, Sx_if, Sx_ite, Sx_par, Sx_par3, Sx_asg, Sx_for, outK_ret, outK_err, outK_brk, outK_cont, loopK_ret, loopK_err, loopK_brk, loopK_cont, W_rng1, rngK_i, W_rng2, rngK2_i, W_seq, seqK_t, seqK_l, W_enumA, enumK_t, enumK_l, W_zip2, oCat_i, oSub_i, oNeg_i, oLt_i, oLe_i, oGt_i, oGe_i, oInt_i, oAbs_i, oMax2_i, oMin2_i, oGcd_i, oIsN_ap, oNotN_ap, oEq_i, oNe_i, oNe_b, oEq_b, gTup_ap, gAll_cons, gNm_ap, gAll_nil, List.set, decide_eq_true_eq, decide_eq_false_iff_not, if_true, if_false, Bool.not_eq_true, Bool.not_eq_true', Bool.false_eq_true, true_and, and_true, Option.some.injEq, exists_eq_left', exists_eq_left, beq_iff_eq, beq_eq_false_iff_ne, optR_some, R.bind, W_lc, atI_c0, atI_c1, atI_c2, Sx_try, tryK_ret, tryK_brk, tryK_cont, offK_ret, offK_brk, offK_cont, Bool.not_true, Bool.not_false, Bool.true_eq_false, not_true_eq_false, not_false_eq_true, true_implies, false_implies, implies_true, Bool.or_false, Bool.or_true, Bool.and_true, Bool.and_false, Bool.true_and, Bool.false_and, Bool.true_or, Bool.false_or, W_str1, strK_s, W_dstr1, strKF_s, st_starts, W_seqS, seqSK_s, W_sl, W_oPart, W_oNo, partK_i, decide_true, decide_false, in_sgn, oRep_i mw]
    refine ⟨⟨_, _, rfl, by decide, ?_⟩, P2, F1.trans F2⟩
    have : (2 * w - 9).natAbs % 2 = 1 := by omega
    rw [show ((2 : Int).natAbs) = 2 from rfl, Nat.gcd_comm, Nat.gcd_rec, this]
    rfl
  · refine Sat_use0 (tk (m := 9 * 100000000) P1 (by decide) (by decide) (by omega)) ?_
    rintro _ S2 ⟨w, rfl, w0, w1, P2, F2⟩
    try simp -implicitDefEqProofs only [Sat_ok, Sat_err, Sat_bad, Sat_bind, Sat_ite, W_var, W_vars, W_c, W_nil, W_cons, W_tup, W_lst, W_new, W_bin, W_un, W_fn, W_dfn, W_call, W_callP, W_if, W_isi, W_val, W_setI, W_app, W_pop, W_popAt, W_ins, W_augI, andK_b, orK_b, W_and, W_or, notK_b, W_not, boolK_b, W_tval, W_tnot, W_tand, W_tor, W_tyes, W_mul, W_mod, W_fdiv, W_pow, W_idxT, W_idxL, Sx_next, Sx_seq, Sx_pass, Sx_expr, Sx_set, Sx_ret, Sx_retN, Sx_brk, Sx_cont, Sx_raise, Sx_if, Sx_ite, Sx_par, Sx_par3, Sx_asg, Sx_for, outK_ret, outK_err, outK_brk, outK_cont, loopK_ret, loopK_err, loopK_brk, loopK_cont, W_rng1, rngK_i, W_rng2, rngK2_i, W_seq, seqK_t, seqK_l, W_enumA, enumK_t, enumK_l, W_zip2, oCat_i, oSub_i, oNeg_i, oLt_i, oLe_i, oGt_i, oGe_i, oInt_i, oAbs_i, oMax2_i, oMin2_i, oGcd_i, oIsN_ap, oNotN_ap, oEq_i, oNe_i, oNe_b, oEq_b, gTup_ap, gAll_cons, gNm_ap, gAll_nil, List.set, decide_eq_true_eq, decide_eq_false_iff_not, if_true, if_false, Bool.not_eq_true, Bool.not_eq_true', Bool.false_eq_true, true_and, and_true, Option.some.injEq, exists_eq_left', exists_eq_left, beq_iff_eq, beq_eq_false_iff_ne, optR_some, R.bind, W_lc, atI_c0, atI_c1, atI_c2, Sx_try, tryK_ret, tryK_brk, tryK_cont, offK_ret, offK_brk, offK_cont, Bool.not_true, Bool.not_false, Bool.true_eq_false, not_true_eq_false, not_false_eq_true, true_implies, false_implies, implies_true, Bool.or_false, Bool.or_true, Bool.and_true, Bool.and_false, Bool.true_and, Bool.false_and, Bool.true_or, Bool.false_or, W_str1, strK_s, W_dstr1, strKF_s, st_starts, W_seqS, seqSK_s, W_sl, W_oPart, W_oNo, partK_i, decide_true, decide_false, in_sgn]
    exact ⟨⟨_, _, rfl, by decide, by simp⟩, P2, F1.trans F2⟩
end K73

set_option maxHeartbeats 4000000
namespace K73
open Py
open PySem (Str sizeLine)
open TL (tl)
variable {n : Nat} {S : Store} {Γ : Calls} {cs : List Nat}
theorem joinL_nil : ∀ {ps : List (List Nat)}, TL.joinL [] ps = ps.flatten
  | [] => rfl
  | [a] => by simp [TL.joinL]
  | a :: b :: ps => by
    have e : TL.joinL [] (a :: b :: ps) = a ++ ([] ++ TL.joinL [] (b :: ps)) := rfl
    rw [e, joinL_nil, List.nil_append]; rfl
theorem sum_flat {ps : List (List Nat)} : ((ps.map sx).map (·.length)).sum = ps.flatten.length := by
  rw [List.length_flatten, List.map_map]
  congr 1
theorem join_ok {b : D} {ms : List (List Nat)} (hb : asSq b S = some (ms.map dm)) (hl : ms.flatten.length ≤ 1000000) : stJoin (PySem.Str.ofString "") b S = .ok (dm ms.flatten) S := by
  unfold stJoin
  rw [hb, Option.bind_some, isStrs_dm]
  dsimp only
  rw [sum_flat, if_pos (by rw [show (PySem.Str.ofString "").length = 0 by decide +kernel]; omega), TL.join_eq]
  have e : Str.join (PySem.Str.ofString "") (ms.map sx) = sx ms.flatten := TL.ext_tl (by
    rw [TL.tl_join, show tl (PySem.Str.ofString "") = [] by decide +kernel, joinL_nil, List.map_map, tl_mk]
    congr 1
    exact List.map_id' _)
  rw [e]
  rfl
theorem flat_one {w : List Nat} : (w.map fun c => [c]).flatten = w := by
  induction w with
  | nil => rfl
  | cons c w ih => rw [List.map_cons, List.flatten_cons, ih]; rfl
theorem sgn_map {w : List Nat} : w.map sgn = (w.map fun c => [c]).map dm := by rw [List.map_map]; rfl
theorem atI_some {α : Type} {xs : List α} {v : Int} (h0 : 0 ≤ v) (h1 : v < xs.length) : ∃ d, L2.atI xs v = some d ∧ d ∈ xs := by
  have hl : v.toNat < xs.length := by omega
  refine ⟨xs[v.toNat], ?_, List.getElem_mem hl⟩
  have := atI_nat hl
  rw [show ((v.toNat : Nat) : Int) = v by omega] at this
  exact this
theorem popAt_ok {α : Type} {f : α → D} {xs : List α} {v : Int} (h0 : 0 ≤ v) (h1 : v < xs.length) (hl : xs.length ≤ 1000000) : ∃ (x : α) (ys : List α), kPopAt (.int v) (xs.map f) = some (ys.map f, f x) ∧ (x :: ys).Perm xs := by
  have hv : v.toNat < xs.length := by omega
  refine ⟨xs[v.toNat], xs.eraseIdx v.toNat, ?_, ?_⟩
  · have hr : inR v = true := inR_of (by omega) (by omega)
    have e : L2.ixN (xs.map f).length v = some v.toNat := by
      unfold L2.ixN
      rw [List.length_map, if_pos h0, if_pos h1]
    unfold kPopAt
    dsimp only
    rw [if_pos hr, e, Option.bind_some, List.getElem?_map, List.getElem?_eq_getElem hv]
    rw [Option.map_some, Option.map_some, List.eraseIdx_eq_take_drop_succ, List.eraseIdx_eq_take_drop_succ, List.map_append, List.map_take, List.map_drop]
  · rw [List.eraseIdx_eq_take_drop_succ]
    refine List.perm_middle.symm.trans ?_
    rw [← List.drop_eq_getElem_cons hv, List.take_append_drop]
/-! ### _law_letters -/
abbrev abc : List Nat := (List.range 26).map (97 + ·)
theorem abc_s : (PySem.Str.ofString "abcdefghijklmnopqrstuvwxyz") = sx abc := by decide +kernel
theorem abc_up : abc.Pairwise (· < ·) := by decide +kernel
theorem abc_in {c : Nat} (h : c ∈ abc) : 97 ≤ c ∧ c ≤ 122 := by
  obtain ⟨k, hk, rfl⟩ := List.mem_map.mp h
  have := List.mem_range.mp hk
  omega
theorem le_one {a b : Nat} : leT (sx [a]) (sx [b]) = decide (a ≤ b) := by
  rw [Bool.eq_iff_iff, leT_iff, decide_eq_true_iff]
  show ([a] : List Nat) ≤ [b] ↔ _
  rw [List.cons_le_cons_iff]
  constructor
  · rintro (h | ⟨h, _⟩) <;> omega
  · intro h
    by_cases e : a = b
    · exact .inr ⟨e, List.le_refl _⟩
    · exact .inl (by omega)
/-- sorted signs -/
theorem sort_one {B : List Nat} (hn : B.Nodup) : ∃ C : List Nat, sortT (B.map fun c => sx [c]) = C.map (fun c => sx [c]) ∧ C.Perm B ∧ C.Pairwise (· < ·) := by
  have hp : (sortT (B.map fun c => sx [c])).Perm (B.map fun c => sx [c]) := List.mergeSort_perm _ _
  have hs : (sortT (B.map fun c => sx [c])).Pairwise (fun a b => leT a b = true) := List.pairwise_mergeSort leT_trans leT_total _
  generalize sortT (B.map fun c => sx [c]) = Z at *
  have hZ : Z = (Z.map fun x => (tl x).headD 0).map fun c => sx [c] := by
    rw [List.map_map]
    conv => lhs; rw [← List.map_id Z]
    refine List.map_congr_left fun x hx => ?_
    obtain ⟨c, _, rfl⟩ := List.mem_map.mp (hp.mem_iff.mp hx)
    rfl
  have hC : (Z.map fun x => (tl x).headD 0).Perm B := by
    have := hp.map fun x => (tl x).headD 0
    rw [List.map_map] at this
    have e : B.map ((fun x => (tl x).headD 0) ∘ fun c => sx [c]) = B := by
      conv => rhs; rw [← List.map_id B]
      rfl
    rw [e] at this
    exact this
  generalize (Z.map fun x => (tl x).headD 0) = C at *
  subst hZ
  refine ⟨C, rfl, hC, ?_⟩
  rw [List.pairwise_map] at hs
  have hn2 : C.Nodup := hC.nodup_iff.mpr hn
  refine (hs.and hn2).imp fun ⟨h1, h2⟩ => ?_
  rw [le_one, decide_eq_true_iff] at h1
  omega
theorem letters_ok {N p m : Nat} (tk : TkC Γ 9) (hP : PotC N S p) (hN : N + 3 ≤ 1000000) (hm : 1 ≤ m ∧ m ≤ 3) :
    OkR (runBody (d10 Γ) 5 [.ref p, .int (m : Nat)] S) (fun d S' => PotC (N + m) S' p ∧ Fx S S' p ∧ ∃ cs, d = .str (sx cs) ∧ Ls cs ∧ cs.length = m) := by
  refine ⟨?_⟩
  have hp := hP.lt
  have els : ∀ U : Store, oListS [.str (PySem.Str.ofString "abcdefghijklmnopqrstuvwxyz")] U = .ok (abc.map sgn) U := fun U => by
    rw [abc_s]
    unfold oListS
    dsimp only
    rw [if_pos (show (sx abc).length ≤ sizeLine by decide +kernel)]
    rfl
  unfold d10
  rw [Sat_body]; simp -implicitDefEqProofs only [List.map_cons, List.map_nil, List.length_cons, List.length_nil, List.replicate, List.cons_append, List.nil_append]
  simp -implicitDefEqProofs only [Sat_ok, Sat_err, Sat_bad, Sat_bind, Sat_ite, W_var, W_vars, W_c, W_nil, W_cons, W_tup, W_lst, W_new, W_bin, W_un, W_fn, W_dfn, W_call, W_callP, W_if, W_isi, W_val, W_setI, W_app, W_pop, W_popAt, W_ins, W_augI, andK_b, orK_b, W_and, W_or, notK_b, W_not, boolK_b, W_tval, W_tnot, W_tand, W_tor, W_tyes, W_mul, W_mod, W_fdiv, W_pow, W_idxT, W_idxL, Sx_next, Sx_seq, Sx_pass, Sx_expr, Sx_set, Sx_ret, Sx_retN, Sx_brk, Sx_cont, Sx_raise, Sx_if, Sx_ite, Sx_par, Sx_par3, Sx_asg, Sx_for, outK_ret, outK_err, outK_brk, outK_cont, loopK_ret, loopK_err, loopK_brk, loopK_cont, W_rng1, rngK_i, W_rng2, rngK2_i, W_seq, seqK_t, seqK_l, W_enumA, enumK_t, enumK_l, W_zip2, oCat_i, oSub_i, oNeg_i, oLt_i, oLe_i, oGt_i, oGe_i, oInt_i, oAbs_i, oMax2_i, oMin2_i, oGcd_i, oIsN_ap, oNotN_ap, oEq_i, oNe_i, oNe_b, oEq_b, gTup_ap, gAll_cons, gNm_ap, gAll_nil, List.set, decide_eq_true_eq, decide_eq_false_iff_not, if_true, if_false, Bool.not_eq_true, Bool.not_eq_true', Bool.false_eq_true, true_and, and_true, Option.some.injEq, exists_eq_left', exists_eq_left, beq_iff_eq, beq_eq_false_iff_ne, optR_some, R.bind, W_lc, atI_c0, atI_c1, atI_c2, Sx_try, tryK_ret, tryK_brk, tryK_cont, offK_ret, offK_brk, offK_cont, Bool.not_true, Bool.not_false, Bool.true_eq_false, not_true_eq_false, not_false_eq_true, true_implies, false_implies, implies_true, Bool.or_false, Bool.or_true, Bool.and_true, Bool.and_false, Bool.true_and, Bool.false_and, Bool.true_or, Bool.false_or, W_str1, strK_s, W_dstr1, strKF_s, st_starts, W_seqS, seqSK_s, W_sl, W_oPart, W_oNo, partK_i, decide_true, decide_false, in_sgn, els]
  refine ⟨inR_of (by omega) (by omega), ?_⟩
  generalize hS1 : S ++ [O.lst (abc.map sgn)] = S1
  have hl1 : S1.length = S.length + 1 := by rw [← hS1, List.length_append]; rfl
  refine Sx_rng m (Int.toNat_natCast _) (fun i e U => PotC (N + i) U p ∧ Fx S U p ∧ ∃ A B a, U[S.length]? = some (.lst (A.map sgn)) ∧ U[S1.length]? = some (.lst (B.map sgn)) ∧ (B ++ A).Perm abc ∧ B.length = i ∧ e = [some (.ref p), some (.int (m : Nat)), some (.ref S.length), some (.ref S1.length), a])
    ⟨by rw [← hS1]; exact hP.app.app, by rw [← hS1]; exact Fx.pre (Pre.app.trans Pre.app), abc, [], none, by rw [List.getElem?_append_left (by omega), ← hS1]; exact new_at, new_at, List.Perm.refl _, rfl, rfl⟩ ?_ ?_
  · rintro i e U hi ⟨PU, FU, A, B, a, gA, gB, hAB, hB, rfl⟩
    have hlen : B.length + A.length = 26 := by
      have := hAB.length_eq
      rw [List.length_append] at this
      exact this
    simp -implicitDefEqProofs only [Sat_ok, Sat_err, Sat_bad, Sat_bind, Sat_ite, W_var, W_vars, W_c, W_nil, W_cons, W_tup, W_lst, W_new, W_bin, W_un, W_fn, W_dfn, W_call, W_callP, W_if, W_isi, W_val, W_setI, W_app, W_pop, W_popAt, W_ins, W_augI, andK_b, orK_b, W_and, W_or, notK_b, W_not, boolK_b, W_tval, W_tnot, W_tand, W_tor, W_tyes, W_mul, W_mod, W_fdiv, W_pow, W_idxT, W_idxL, Sx_next, Sx_seq, Sx_pass, Sx_expr, Sx_set, Sx_ret, Sx_retN, Sx_brk, Sx_cont, Sx_raise, Sx_if, Sx_ite, Sx_par, Sx_par3, Sx_asg, Sx_for, outK_ret, outK_err, outK_brk, outK_cont, loopK_ret, loopK_err, loopK_brk, loopK_cont, W_rng1, rngK_i, W_rng2, rngK2_i, W_seq, seqK_t, seqK_l, W_enumA, enumK_t, enumK_l, W_zip2, oCat_i, oSub_i, oNeg_i, oLt_i, oLe_i, oGt_i, oGe_i, oInt_i, oAbs_i, oMax2_i, oMin2_i, oGcd_i, oIsN_ap, oNotN_ap, oEq_i, oNe_i, oNe_b, oEq_b, gTup_ap, gAll_cons, gNm_ap, gAll_nil, List.set, decide_eq_true_eq, decide_eq_false_iff_not, if_true, if_false, Bool.not_eq_true, Bool.not_eq_true', Bool.false_eq_true, true_and, and_true, Option.some.injEq, exists_eq_left', exists_eq_left, beq_iff_eq, beq_eq_false_iff_ne, optR_some, R.bind, W_lc, atI_c0, atI_c1, atI_c2, Sx_try, tryK_ret, tryK_brk, tryK_cont, offK_ret, offK_brk, offK_cont, Bool.not_true, Bool.not_false, Bool.true_eq_false, not_true_eq_false, not_false_eq_true, true_implies, false_implies, implies_true, Bool.or_false, Bool.or_true, Bool.and_true, Bool.and_false, Bool.true_and, Bool.false_and, Bool.true_or, Bool.false_or, W_str1, strK_s, W_dstr1, strKF_s, st_starts, W_seqS, seqSK_s, W_sl, W_oPart, W_oNo, partK_i, decide_true, decide_false, in_sgn, W_rcv, rcv_ok gA, rcv_ok gB, len_ref gA]
    refine Sat_use0 (tk PU (by simp; omega) (sm (B := 100) (by simp; omega) (by decide)) (by omega)) ?_
    rintro _ U1 ⟨v, rfl, v0, v1, P1, F1⟩
    rw [List.length_map] at v1
    obtain ⟨c, A', hk, hA'⟩ := popAt_ok (f := sgn) (xs := A) v0 v1 (by omega)
    have gA1 : U1[S.length]? = some (.lst (A.map sgn)) := (F1.2 _ (by omega)).trans gA
    have gB1 : U1[S1.length]? = some (.lst (B.map sgn)) := (F1.2 _ (by omega)).trans gB
    rw [chg_at gA1 hk]
    try simp -implicitDefEqProofs only [Sat_ok, Sat_err, Sat_bad, Sat_bind, Sat_ite, W_var, W_vars, W_c, W_nil, W_cons, W_tup, W_lst, W_new, W_bin, W_un, W_fn, W_dfn, W_call, W_callP, W_if, W_isi, W_val, W_setI, W_app, W_pop, W_popAt, W_ins, W_augI, andK_b, orK_b, W_and, W_or, notK_b, W_not, boolK_b, W_tval, W_tnot, W_tand, W_tor, W_tyes, W_mul, W_mod, W_fdiv, W_pow, W_idxT, W_idxL, Sx_next, Sx_seq, Sx_pass, Sx_expr, Sx_set, Sx_ret, Sx_retN, Sx_brk, Sx_cont, Sx_raise, Sx_if, Sx_ite, Sx_par, Sx_par3, Sx_asg, Sx_for, outK_ret, outK_err, outK_brk, outK_cont, loopK_ret, loopK_err, loopK_brk, loopK_cont, W_rng1, rngK_i, W_rng2, rngK2_i, W_seq, seqK_t, seqK_l, W_enumA, enumK_t, enumK_l, W_zip2, oCat_i, oSub_i, oNeg_i, oLt_i, oLe_i, oGt_i, oGe_i, oInt_i, oAbs_i, oMax2_i, oMin2_i, oGcd_i, oIsN_ap, oNotN_ap, oEq_i, oNe_i, oNe_b, oEq_b, gTup_ap, gAll_cons, gNm_ap, gAll_nil, List.set, decide_eq_true_eq, decide_eq_false_iff_not, if_true, if_false, Bool.not_eq_true, Bool.not_eq_true', Bool.false_eq_true, true_and, and_true, Option.some.injEq, exists_eq_left', exists_eq_left, beq_iff_eq, beq_eq_false_iff_ne, optR_some, R.bind, W_lc, atI_c0, atI_c1, atI_c2, Sx_try, tryK_ret, tryK_brk, tryK_cont, offK_ret, offK_brk, offK_cont, Bool.not_true, Bool.not_false, Bool.true_eq_false, not_true_eq_false, not_false_eq_true, true_implies, false_implies, implies_true, Bool.or_false, Bool.or_true, Bool.and_true, Bool.and_false, Bool.true_and, Bool.false_and, Bool.true_or, Bool.false_or, W_str1, strK_s, W_dstr1, strKF_s, st_starts, W_seqS, seqSK_s, W_sl, W_oPart, W_oNo, partK_i, decide_true, decide_false, in_sgn]
    have gB2 : (U1.set S.length (.lst (A'.map sgn)))[S1.length]? = some (.lst (B.map sgn)) := by rw [List.getElem?_set_ne (by omega)]; exact gB1
    have gA2 : (U1.set S.length (.lst (A'.map sgn)))[S.length]? = some (.lst (A'.map sgn)) := List.getElem?_set_self (lt_of_get gA1)
    have F2 : Fx S (U1.set S.length (.lst (A'.map sgn))) p := (FU.trans (Fx.of F1)).setN (Nat.le_refl _)
    have P2 : PotC (N + i + 1) (U1.set S.length (.lst (A'.map sgn))) p := P1.same (List.getElem?_set_ne (by omega))
    generalize U1.set S.length (.lst (A'.map sgn)) = U2 at *
    rw [app_ok gB2 (by rw [List.length_map]; omega)]
    refine ⟨P2.same (List.getElem?_set_ne (by omega)), F2.setN (by omega), A', B ++ [c], _, by rw [List.getElem?_set_ne (by omega)]; exact gA2, ?_, ?_, by rw [List.length_append, hB]; rfl, rfl⟩
    · rw [List.getElem?_set_self (lt_of_get gB2), List.map_append]; rfl
    · rw [List.append_assoc]
      exact (hA'.append_left B).trans hAB
  · rintro e U ⟨PU, FU, A, B, a, gA, gB, hAB, hB, rfl⟩
    have hBn : B.Nodup := (List.nodup_append.mp (hAB.nodup_iff.mpr (abc_up.imp fun h => Nat.ne_of_lt h))).1
    have hBa : ∀ c ∈ B, 97 ≤ c ∧ c ≤ 122 := fun c hc => abc_in (hAB.mem_iff.mp (List.mem_append_left _ hc))
    obtain ⟨C, hC1, hC2, hC3⟩ := sort_one hBn
    have eso : oSortS [.ref S1.length] U = .ok (C.map sgn) U := by
      unfold oSortS
      dsimp only
      have e1 : B.map sgn = (B.map fun c => [c]).map dm := sgn_map
      have e2 : (B.map fun c => [c]).map sx = B.map fun c => sx [c] := by rw [List.map_map]; rfl
      rw [asL_r gB, Option.bind_some, e1, isStrs_dm, e2]
      dsimp only
      rw [if_pos (by rw [List.length_map]; omega), hC1, List.map_map]
      rfl
    simp -implicitDefEqProofs only [Sat_ok, Sat_err, Sat_bad, Sat_bind, Sat_ite, W_var, W_vars, W_c, W_nil, W_cons, W_tup, W_lst, W_new, W_bin, W_un, W_fn, W_dfn, W_call, W_callP, W_if, W_isi, W_val, W_setI, W_app, W_pop, W_popAt, W_ins, W_augI, andK_b, orK_b, W_and, W_or, notK_b, W_not, boolK_b, W_tval, W_tnot, W_tand, W_tor, W_tyes, W_mul, W_mod, W_fdiv, W_pow, W_idxT, W_idxL, Sx_next, Sx_seq, Sx_pass, Sx_expr, Sx_set, Sx_ret, Sx_retN, Sx_brk, Sx_cont, Sx_raise, Sx_if, Sx_ite, Sx_par, Sx_par3, Sx_asg, Sx_for, outK_ret, outK_err, outK_brk, outK_cont, loopK_ret, loopK_err, loopK_brk, loopK_cont, W_rng1, rngK_i, W_rng2, rngK2_i, W_seq, seqK_t, seqK_l, W_enumA, enumK_t, enumK_l, W_zip2, oCat_i, oSub_i, oNeg_i, oLt_i, oLe_i, oGt_i, oGe_i, oInt_i, oAbs_i, oMax2_i, oMin2_i, oGcd_i, oIsN_ap, oNotN_ap, oEq_i, oNe_i, oNe_b, oEq_b, gTup_ap, gAll_cons, gNm_ap, gAll_nil, List.set, decide_eq_true_eq, decide_eq_false_iff_not, if_true, if_false, Bool.not_eq_true, Bool.not_eq_true', Bool.false_eq_true, true_and, and_true, Option.some.injEq, exists_eq_left', exists_eq_left, beq_iff_eq, beq_eq_false_iff_ne, optR_some, R.bind, W_lc, atI_c0, atI_c1, atI_c2, Sx_try, tryK_ret, tryK_brk, tryK_cont, offK_ret, offK_brk, offK_cont, Bool.not_true, Bool.not_false, Bool.true_eq_false, not_true_eq_false, not_false_eq_true, true_implies, false_implies, implies_true, Bool.or_false, Bool.or_true, Bool.and_true, Bool.and_false, Bool.true_and, Bool.false_and, Bool.true_or, Bool.false_or, W_str1, strK_s, W_dstr1, strKF_s, st_starts, W_seqS, seqSK_s, W_sl, W_oPart, W_oNo, partK_i, decide_true, decide_false, in_sgn, eso]
    have hCl : C.length = m := by rw [hC2.length_eq, hB]
    rw [join_ok (ms := C.map fun c => [c]) (by rw [← sgn_map]; rfl) (by rw [flat_one]; omega), flat_one]
    exact ⟨PU, FU, C, rfl, ⟨fun h => by rw [h] at hCl; simp at hCl; omega, by omega, hC3, fun c hc => hBa c (hC2.mem_iff.mp hc)⟩, hCl⟩
end K73

set_option maxHeartbeats 4000000
namespace K73
open Py
open PySem (Str sizeLine)
open TL (tl)
variable {n : Nat} {S : Store} {Γ : Calls} {cs : List Nat}
/-! ### cuts -/
theorem cut_to {xs : List D} {k : Nat} : cutD xs none (some (k : Int)) = xs.take k := by
  unfold cutD
  have e1 : HT.sIx xs.length 0 none = 0 := rfl
  have e2 : HT.sIx xs.length xs.length (some (k : Int)) = min k xs.length := by
    unfold HT.sIx
    simp
    omega
  rw [e1, e2, List.drop_zero, Nat.sub_zero, ← List.take_eq_take_min]
theorem cut_from {xs : List D} {k : Nat} : cutD xs (some (k : Int)) none = xs.drop k := by
  unfold cutD
  have e1 : HT.sIx xs.length xs.length none = xs.length := rfl
  have e2 : HT.sIx xs.length 0 (some (k : Int)) = min k xs.length := by
    unfold HT.sIx
    simp
    omega
  rw [e1, e2]
  by_cases h : k ≤ xs.length
  · rw [Nat.min_eq_left h, List.take_of_length_le (by rw [List.length_drop]; omega)]
  · rw [Nat.min_eq_right (by omega), List.drop_eq_nil_of_le (by omega), List.drop_eq_nil_of_le (by omega)]
    simp
/-! ### every other one -/
theorem rng2 {a n : Nat} (h : a ≤ n) : PySem.sliceRange (a : Int) (n : Int) 2 = (List.range ((n + 1 - a) / 2)).map (fun i => a + 2 * i) := by
  unfold PySem.sliceRange
  have e : (if (2 : Int) > 0 then (if (a : Int) < n then ((n : Int) - a + 2 - 1) / 2 else 0) else (if (a : Int) > n then ((a : Int) - n - 2 - 1) / (-2) else 0)).toNat = (n + 1 - a) / 2 := by
    rw [if_pos (by decide)]
    split <;> omega
  dsimp only
  rw [e]
  refine List.map_congr_left fun k _ => ?_
  omega
theorem pick_eq {α : Type} {xs : List α} {lo : Option Int} {s : Nat} (h : lo = none ∧ s = 0 ∨ lo = some 1 ∧ s = 1) : pickL xs lo 2 = ((List.range ((xs.length + 1 - s) / 2)).map (fun i => s + 2 * i)).filterMap (xs[·]?) := by
  unfold pickL
  rcases h with ⟨rfl, rfl⟩ | ⟨rfl, rfl⟩
  · have e : PySem.sliceBounds none none (some 2) xs.length = (((0 : Nat) : Int), (xs.length : Int), 2) := rfl
    rw [e]
    dsimp only
    rw [rng2 (Nat.zero_le _)]
  · cases xs with
    | nil => simp
    | cons x xs =>
      have e : PySem.sliceBounds (some 1) none (some 2) (x :: xs).length = (((1 : Nat) : Int), ((x :: xs).length : Int), 2) := by
        unfold PySem.sliceBounds
        simp
        omega
      rw [e]
      dsimp only
      rw [rng2 (by simp)]
theorem half_perm : ∀ n : Nat, (((List.range (n / 2)).map (fun i => 1 + 2 * i)) ++ ((List.range ((n + 1) / 2)).map (fun i => 0 + 2 * i))).Perm (List.range n)
  | 0 => .refl _
  | n + 1 => by
    rw [List.range_succ]
    by_cases h : n % 2 = 0
    · have e1 : (n + 1) / 2 = n / 2 := by omega
      have e2 : (n + 1 + 1) / 2 = (n + 1) / 2 + 1 := by omega
      rw [e2, List.range_succ, List.map_append, ← List.append_assoc]
      refine List.Perm.append ?_ ?_
      · have := half_perm n
        rw [e1]
        rw [e1] at this
        exact this
      · have : 0 + 2 * ((n + 1) / 2) = n := by omega
        show [0 + 2 * ((n + 1) / 2)].Perm [n]
        rw [this]
    · have e1 : (n + 1) / 2 = n / 2 + 1 := by omega
      have e2 : (n + 1 + 1) / 2 = (n + 1) / 2 := by omega
      rw [e2, e1, List.range_succ (n := n / 2), List.map_append, List.append_assoc]
      have h1 := half_perm n
      rw [e1] at h1
      have h2 : 1 + 2 * (n / 2) = n := by omega
      have e3 : [n / 2].map (fun i => 1 + 2 * i) = [n] := by show [1 + 2 * (n / 2)] = _; rw [h2]
      rw [e3, ← List.range_succ]
      refine (List.perm_append_comm.append_left _).trans ?_
      rw [← List.append_assoc]
      exact h1.append_right _
theorem pick_take {α : Type} (xs : List α) : ∀ k : Nat, k ≤ xs.length → (List.range k).filterMap (xs[·]?) = xs.take k
  | 0, _ => by simp
  | k + 1, h => by
    have hk : k < xs.length := by omega
    rw [List.range_succ, List.filterMap_append, pick_take xs k (by omega), List.take_succ_eq_append_getElem hk]
    congr 1
    simp [List.getElem?_eq_getElem hk]
theorem pick_range {α : Type} (xs : List α) : (List.range xs.length).filterMap (xs[·]?) = xs := by
  rw [pick_take xs _ (Nat.le_refl _), List.take_length]
theorem pick_perm {α : Type} (xs : List α) : (pickL xs (some 1) 2 ++ pickL xs none 2).Perm xs := by
  rw [pick_eq (.inr ⟨rfl, rfl⟩), pick_eq (.inl ⟨rfl, rfl⟩), ← List.filterMap_append]
  have h := (half_perm xs.length).filterMap (xs[·]?)
  rw [pick_range] at h
  exact h
/-- _law_order -/
theorem order_ok {N p : Nat} {rows : List D} (tk : TkC Γ 9) (hP : PotC N S p) (hN : N + 30000 ≤ 1000000) (hl : rows.length ≤ 20000) (hn : noRefL rows = true) :
    Sat (runBody (d12 Γ) 7 [.ref p, .lst rows] S) (fun d S' => PotC (N + 20001) S' p ∧ Fx S S' p ∧ ((noRef d = true ∧ ∃ r2, d = .lst r2 ∧ r2.Perm rows) ∨ ∃ q xs, d = .ref q ∧ S.length ≤ q ∧ S'[q]? = some (.lst xs) ∧ noRefL xs = true ∧ ∃ r2, D.lst xs = .lst r2 ∧ r2.Perm rows)) (fun _ _ _ => False) := by
  have hp := hP.lt
  unfold d12
  rw [Sat_body]; simp -implicitDefEqProofs only [List.map_cons, List.map_nil, List.length_cons, List.length_nil, List.replicate, List.cons_append, List.nil_append]
  try simp -implicitDefEqProofs only [Sat_ok, Sat_err, Sat_bad, Sat_bind, Sat_ite, W_var, W_vars, W_c, W_nil, W_cons, W_tup, W_lst, W_new, W_bin, W_un, W_fn, W_dfn, W_call, W_callP, W_if, W_isi, W_val, W_setI, W_app, W_pop, W_popAt, W_ins, W_augI, andK_b, orK_b, W_and, W_or, notK_b, W_not, boolK_b, W_tval, W_tnot, W_tand, W_tor, W_tyes, W_mul, W_mod, W_fdiv, W_pow, W_idxT, W_idxL, Sx_next, Sx_seq, Sx_pass, Sx_expr, Sx_set, Sx_ret, Sx_retN, Sx_brk, Sx_cont, Sx_raise, Sx_if, Sx_ite, Sx_par, Sx_par3, Sx_asg, Sx_for, outK_ret, outK_err, outK_brk, outK_cont, loopK_ret, loopK_err, loopK_brk, loopK_cont, W_rng1, rngK_i, W_rng2, rngK2_i, W_seq, seqK_t, seqK_l, W_enumA, enumK_t, enumK_l, W_zip2, oCat_i, oSub_i, oNeg_i, oLt_i, oLe_i, oGt_i, oGe_i, oInt_i, oAbs_i, oMax2_i, oMin2_i, oGcd_i, oIsN_ap, oNotN_ap, oEq_i, oNe_i, oNe_b, oEq_b, gTup_ap, gAll_cons, gNm_ap, gAll_nil, List.set, decide_eq_true_eq, decide_eq_false_iff_not, if_true, if_false, Bool.not_eq_true, Bool.not_eq_true', Bool.false_eq_true, true_and, and_true, Option.some.injEq, exists_eq_left', exists_eq_left, beq_iff_eq, beq_eq_false_iff_ne, optR_some, R.bind, W_lc, atI_c0, atI_c1, atI_c2, Sx_try, tryK_ret, tryK_brk, tryK_cont, offK_ret, offK_brk, offK_cont, Bool.not_true, Bool.not_false, Bool.true_eq_false, not_true_eq_false, not_false_eq_true, true_implies, false_implies, implies_true, Bool.or_false, Bool.or_true, Bool.and_true, Bool.and_false, Bool.true_and, Bool.false_and, Bool.true_or, Bool.false_or, W_str1, strK_s, W_dstr1, strKF_s, st_starts, W_seqS, seqSK_s, W_sl, W_oPart, W_oNo, partK_i, decide_true, decide_false, in_sgn]
  refine Sat_use0 (tk hP (by decide) (by decide) (by omega)) ?_
  rintro _ S1 ⟨v, rfl, v0, v1, P1, F1⟩
  simp -implicitDefEqProofs only [Sat_ok, Sat_err, Sat_bad, Sat_bind, Sat_ite, W_var, W_vars, W_c, W_nil, W_cons, W_tup, W_lst, W_new, W_bin, W_un, W_fn, W_dfn, W_call, W_callP, W_if, W_isi, W_val, W_setI, W_app, W_pop, W_popAt, W_ins, W_augI, andK_b, orK_b, W_and, W_or, notK_b, W_not, boolK_b, W_tval, W_tnot, W_tand, W_tor, W_tyes, W_mul, W_mod, W_fdiv, W_pow, W_idxT, W_idxL, Sx_next, Sx_seq, Sx_pass, Sx_expr, Sx_set, Sx_ret, Sx_retN, Sx_brk, Sx_cont, Sx_raise, Sx_if, Sx_ite, Sx_par, Sx_par3, Sx_asg, Sx_for, outK_ret, outK_err, outK_brk, outK_cont, loopK_ret, loopK_err, loopK_brk, loopK_cont, W_rng1, rngK_i, W_rng2, rngK2_i, W_seq, seqK_t, seqK_l, W_enumA, enumK_t, enumK_l, W_zip2, oCat_i, oSub_i, oNeg_i, oLt_i, oLe_i, oGt_i, oGe_i, oInt_i, oAbs_i, oMax2_i, oMin2_i, oGcd_i, oIsN_ap, oNotN_ap, oEq_i, oNe_i, oNe_b, oEq_b, gTup_ap, gAll_cons, gNm_ap, gAll_nil, List.set, decide_eq_true_eq, decide_eq_false_iff_not, if_true, if_false, Bool.not_eq_true, Bool.not_eq_true', Bool.false_eq_true, true_and, and_true, Option.some.injEq, exists_eq_left', exists_eq_left, beq_iff_eq, beq_eq_false_iff_ne, optR_some, R.bind, W_lc, atI_c0, atI_c1, atI_c2, Sx_try, tryK_ret, tryK_brk, tryK_cont, offK_ret, offK_brk, offK_cont, Bool.not_true, Bool.not_false, Bool.true_eq_false, not_true_eq_false, not_false_eq_true, true_implies, false_implies, implies_true, Bool.or_false, Bool.or_true, Bool.and_true, Bool.and_false, Bool.true_and, Bool.false_and, Bool.true_or, Bool.false_or, W_str1, strK_s, W_dstr1, strKF_s, st_starts, W_seqS, seqSK_s, W_sl, W_oPart, W_oNo, partK_i, decide_true, decide_false, in_sgn, list_ok asSq_l, W_step, step_ok (asL_r new_at), W_revL, rev_ok (asL_r new_at)]
  have hS1 : S1.length = S.length := F1.1
  have nop : ∀ {r2 : List D}, r2.Perm rows → noRefL r2 = true := fun {r2} h => by
    exact noRefL_perm h hn
  have hgn : (S1 ++ [O.lst rows])[S1.length]? = some (.lst rows) := new_at
  have FA : Fx S (S1 ++ [O.lst rows]) p := (Fx.of F1).trans Fx.app
  have PA : PotC (N + 1) (S1 ++ [O.lst rows]) p := P1.app
  refine ⟨fun _ => ?_, fun _ => ⟨fun _ => ?_, fun _ => ⟨fun _ => ?_, fun _ => ?_⟩⟩⟩
  · have h := List.reverse_perm rows
    exact ⟨PA.mono (by omega), FA, .inl ⟨by unfold noRef; exact nop h, _, rfl, h⟩⟩
  · have h := pick_perm rows
    have hl2 := h.length_eq
    rw [List.length_append] at hl2
    rw [cat_l asL_l asL_l (by omega)]
    exact ⟨PA.mono (by omega), FA, .inl ⟨by unfold noRef; exact nop h, _, rfl, h⟩⟩
  · simp -implicitDefEqProofs only [Sat_ok, Sat_err, Sat_bad, Sat_bind, Sat_ite, W_var, W_vars, W_c, W_nil, W_cons, W_tup, W_lst, W_new, W_bin, W_un, W_fn, W_dfn, W_call, W_callP, W_if, W_isi, W_val, W_setI, W_app, W_pop, W_popAt, W_ins, W_augI, andK_b, orK_b, W_and, W_or, notK_b, W_not, boolK_b, W_tval, W_tnot, W_tand, W_tor, W_tyes, W_mul, W_mod, W_fdiv, W_pow, W_idxT, W_idxL, Sx_next, Sx_seq, Sx_pass, Sx_expr, Sx_set, Sx_ret, Sx_retN, Sx_brk, Sx_cont, Sx_raise, Sx_if, Sx_ite, Sx_par, Sx_par3, Sx_asg, Sx_for, outK_ret, outK_err, outK_brk, outK_cont, loopK_ret, loopK_err, loopK_brk, loopK_cont, W_rng1, rngK_i, W_rng2, rngK2_i, W_seq, seqK_t, seqK_l, W_enumA, enumK_t, enumK_l, W_zip2, oCat_i, oSub_i, oNeg_i, oLt_i, oLe_i, oGt_i, oGe_i, oInt_i, oAbs_i, oMax2_i, oMin2_i, oGcd_i, oIsN_ap, oNotN_ap, oEq_i, oNe_i, oNe_b, oEq_b, gTup_ap, gAll_cons, gNm_ap, gAll_nil, List.set, decide_eq_true_eq, decide_eq_false_iff_not, if_true, if_false, Bool.not_eq_true, Bool.not_eq_true', Bool.false_eq_true, true_and, and_true, Option.some.injEq, exists_eq_left', exists_eq_left, beq_iff_eq, beq_eq_false_iff_ne, optR_some, R.bind, W_lc, atI_c0, atI_c1, atI_c2, Sx_try, tryK_ret, tryK_brk, tryK_cont, offK_ret, offK_brk, offK_cont, Bool.not_true, Bool.not_false, Bool.true_eq_false, not_true_eq_false, not_false_eq_true, true_implies, false_implies, implies_true, Bool.or_false, Bool.or_true, Bool.and_true, Bool.and_false, Bool.true_and, Bool.false_and, Bool.true_or, Bool.false_or, W_str1, strK_s, W_dstr1, strKF_s, st_starts, W_seqS, seqSK_s, W_sl, W_oPart, W_oNo, partK_i, decide_true, decide_false, in_sgn, len_ref hgn]
    refine Sat_use0 (tk (m := (rows.length : Int) + 1) PA (by omega) (sm (B := 100000) (by omega) (by decide)) (by omega)) ?_
    rintro _ S2 ⟨w, rfl, w0, w1, P2, F2⟩
    obtain ⟨k, rfl⟩ : ∃ k : Nat, w = k := ⟨w.toNat, by omega⟩
    have g2 : S2[S1.length]? = some (.lst rows) := (F2.2 _ (by omega)).trans hgn
    simp -implicitDefEqProofs only [Sat_ok, Sat_err, Sat_bad, Sat_bind, Sat_ite, W_var, W_vars, W_c, W_nil, W_cons, W_tup, W_lst, W_new, W_bin, W_un, W_fn, W_dfn, W_call, W_callP, W_if, W_isi, W_val, W_setI, W_app, W_pop, W_popAt, W_ins, W_augI, andK_b, orK_b, W_and, W_or, notK_b, W_not, boolK_b, W_tval, W_tnot, W_tand, W_tor, W_tyes, W_mul, W_mod, W_fdiv, W_pow, W_idxT, W_idxL, Sx_next, Sx_seq, Sx_pass, Sx_expr, Sx_set, Sx_ret, Sx_retN, Sx_brk, Sx_cont, Sx_raise, Sx_if, Sx_ite, Sx_par, Sx_par3, Sx_asg, Sx_for, outK_ret, outK_err, outK_brk, outK_cont, loopK_ret, loopK_err, loopK_brk, loopK_cont, W_rng1, rngK_i, W_rng2, rngK2_i, W_seq, seqK_t, seqK_l, W_enumA, enumK_t, enumK_l, W_zip2, oCat_i, oSub_i, oNeg_i, oLt_i, oLe_i, oGt_i, oGe_i, oInt_i, oAbs_i, oMax2_i, oMin2_i, oGcd_i, oIsN_ap, oNotN_ap, oEq_i, oNe_i, oNe_b, oEq_b, gTup_ap, gAll_cons, gNm_ap, gAll_nil, List.set, decide_eq_true_eq, decide_eq_false_iff_not, if_true, if_false, Bool.not_eq_true, Bool.not_eq_true', Bool.false_eq_true, true_and, and_true, Option.some.injEq, exists_eq_left', exists_eq_left, beq_iff_eq, beq_eq_false_iff_ne, optR_some, R.bind, W_lc, atI_c0, atI_c1, atI_c2, Sx_try, tryK_ret, tryK_brk, tryK_cont, offK_ret, offK_brk, offK_cont, Bool.not_true, Bool.not_false, Bool.true_eq_false, not_true_eq_false, not_false_eq_true, true_implies, false_implies, implies_true, Bool.or_false, Bool.or_true, Bool.and_true, Bool.and_false, Bool.true_and, Bool.false_and, Bool.true_or, Bool.false_or, W_str1, strK_s, W_dstr1, strKF_s, st_starts, W_seqS, seqSK_s, W_sl, W_oPart, W_oNo, partK_i, decide_true, decide_false, in_sgn, sl_l (asL_r g2), cut_to, cut_from]
    rw [cat_l asL_l asL_l (by rw [List.length_drop, List.length_take]; omega)]
    have h : (rows.drop k ++ rows.take k).Perm rows := List.perm_append_comm.trans (by rw [List.take_append_drop])
    exact ⟨P2.mono (by omega), FA.trans (Fx.of F2), .inl ⟨by unfold noRef; exact nop h, _, rfl, h⟩⟩
  · simp -implicitDefEqProofs only [Sat_ok, Sat_err, Sat_bad, Sat_bind, Sat_ite, W_var, W_vars, W_c, W_nil, W_cons, W_tup, W_lst, W_new, W_bin, W_un, W_fn, W_dfn, W_call, W_callP, W_if, W_isi, W_val, W_setI, W_app, W_pop, W_popAt, W_ins, W_augI, andK_b, orK_b, W_and, W_or, notK_b, W_not, boolK_b, W_tval, W_tnot, W_tand, W_tor, W_tyes, W_mul, W_mod, W_fdiv, W_pow, W_idxT, W_idxL, Sx_next, Sx_seq, Sx_pass, Sx_expr, Sx_set, Sx_ret, Sx_retN, Sx_brk, Sx_cont, Sx_raise, Sx_if, Sx_ite, Sx_par, Sx_par3, Sx_asg, Sx_for, outK_ret, outK_err, outK_brk, outK_cont, loopK_ret, loopK_err, loopK_brk, loopK_cont, W_rng1, rngK_i, W_rng2, rngK2_i, W_seq, seqK_t, seqK_l, W_enumA, enumK_t, enumK_l, W_zip2, oCat_i, oSub_i, oNeg_i, oLt_i, oLe_i, oGt_i, oGe_i, oInt_i, oAbs_i, oMax2_i, oMin2_i, oGcd_i, oIsN_ap, oNotN_ap, oEq_i, oNe_i, oNe_b, oEq_b, gTup_ap, gAll_cons, gNm_ap, gAll_nil, List.set, decide_eq_true_eq, decide_eq_false_iff_not, if_true, if_false, Bool.not_eq_true, Bool.not_eq_true', Bool.false_eq_true, true_and, and_true, Option.some.injEq, exists_eq_left', exists_eq_left, beq_iff_eq, beq_eq_false_iff_ne, optR_some, R.bind, W_lc, atI_c0, atI_c1, atI_c2, Sx_try, tryK_ret, tryK_brk, tryK_cont, offK_ret, offK_brk, offK_cont, Bool.not_true, Bool.not_false, Bool.true_eq_false, not_true_eq_false, not_false_eq_true, true_implies, false_implies, implies_true, Bool.or_false, Bool.or_true, Bool.and_true, Bool.and_false, Bool.true_and, Bool.false_and, Bool.true_or, Bool.false_or, W_str1, strK_s, W_dstr1, strKF_s, st_starts, W_seqS, seqSK_s, W_sl, W_oPart, W_oNo, partK_i, decide_true, decide_false, in_sgn, len_l]
    refine ⟨inR_of (by omega) (by omega), ?_⟩
    generalize hT : S1 ++ [O.lst rows] = T at *
    have hTl : T.length = S.length + 1 := by rw [← hT, List.length_append, hS1]; rfl
    refine Sx_rng rows.length (Int.toNat_natCast _) (fun i e U => PotC (N + 1 + i) U p ∧ Fx S U p ∧ ∃ A B a b, U[S1.length]? = some (.lst A) ∧ U[T.length]? = some (.lst B) ∧ (B ++ A).Perm rows ∧ B.length = i ∧ e = [some (.ref p), some (.lst rows), some (.int v), some (.ref S1.length), a, some (.ref T.length), b])
      ⟨PA.app, FA.trans Fx.app, rows, [], none, none, by rw [List.getElem?_append_left (by omega)]; exact hgn, new_at, List.Perm.refl _, rfl, rfl⟩ ?_ ?_
    · rintro i e U hi ⟨PU, FU, A, B, a, b, gA, gB, hAB, hB, rfl⟩
      have hlen : B.length + A.length = rows.length := by
        have := hAB.length_eq
        rw [List.length_append] at this
        exact this
      simp -implicitDefEqProofs only [Sat_ok, Sat_err, Sat_bad, Sat_bind, Sat_ite, W_var, W_vars, W_c, W_nil, W_cons, W_tup, W_lst, W_new, W_bin, W_un, W_fn, W_dfn, W_call, W_callP, W_if, W_isi, W_val, W_setI, W_app, W_pop, W_popAt, W_ins, W_augI, andK_b, orK_b, W_and, W_or, notK_b, W_not, boolK_b, W_tval, W_tnot, W_tand, W_tor, W_tyes, W_mul, W_mod, W_fdiv, W_pow, W_idxT, W_idxL, Sx_next, Sx_seq, Sx_pass, Sx_expr, Sx_set, Sx_ret, Sx_retN, Sx_brk, Sx_cont, Sx_raise, Sx_if, Sx_ite, Sx_par, Sx_par3, Sx_asg, Sx_for, outK_ret, outK_err, outK_brk, outK_cont, loopK_ret, loopK_err, loopK_brk, loopK_cont, W_rng1, rngK_i, W_rng2, rngK2_i, W_seq, seqK_t, seqK_l, W_enumA, enumK_t, enumK_l, W_zip2, oCat_i, oSub_i, oNeg_i, oLt_i, oLe_i, oGt_i, oGe_i, oInt_i, oAbs_i, oMax2_i, oMin2_i, oGcd_i, oIsN_ap, oNotN_ap, oEq_i, oNe_i, oNe_b, oEq_b, gTup_ap, gAll_cons, gNm_ap, gAll_nil, List.set, decide_eq_true_eq, decide_eq_false_iff_not, if_true, if_false, Bool.not_eq_true, Bool.not_eq_true', Bool.false_eq_true, true_and, and_true, Option.some.injEq, exists_eq_left', exists_eq_left, beq_iff_eq, beq_eq_false_iff_ne, optR_some, R.bind, W_lc, atI_c0, atI_c1, atI_c2, Sx_try, tryK_ret, tryK_brk, tryK_cont, offK_ret, offK_brk, offK_cont, Bool.not_true, Bool.not_false, Bool.true_eq_false, not_true_eq_false, not_false_eq_true, true_implies, false_implies, implies_true, Bool.or_false, Bool.or_true, Bool.and_true, Bool.and_false, Bool.true_and, Bool.false_and, Bool.true_or, Bool.false_or, W_str1, strK_s, W_dstr1, strKF_s, st_starts, W_seqS, seqSK_s, W_sl, W_oPart, W_oNo, partK_i, decide_true, decide_false, in_sgn, W_rcv, rcv_ok gA, rcv_ok gB, len_ref gA]
      refine Sat_use0 (tk PU (by omega) (sm (B := 100000) (by omega) (by decide)) (by omega)) ?_
      rintro _ U1 ⟨v, rfl, v0, v1, P1, F1⟩
      obtain ⟨c, A', hk, hA'⟩ := popAt_ok (f := fun d => d) (xs := A) v0 v1 (by omega)
      rw [List.map_id', List.map_id'] at hk
      have gA1 : U1[S1.length]? = some (.lst A) := (F1.2 _ (by omega)).trans gA
      have gB1 : U1[T.length]? = some (.lst B) := (F1.2 _ (by omega)).trans gB
      rw [chg_at gA1 hk]
      try simp -implicitDefEqProofs only [Sat_ok, Sat_err, Sat_bad, Sat_bind, Sat_ite, W_var, W_vars, W_c, W_nil, W_cons, W_tup, W_lst, W_new, W_bin, W_un, W_fn, W_dfn, W_call, W_callP, W_if, W_isi, W_val, W_setI, W_app, W_pop, W_popAt, W_ins, W_augI, andK_b, orK_b, W_and, W_or, notK_b, W_not, boolK_b, W_tval, W_tnot, W_tand, W_tor, W_tyes, W_mul, W_mod, W_fdiv, W_pow, W_idxT, W_idxL, Sx_next, Sx_seq, Sx_pass, Sx_expr, Sx_set, Sx_ret, Sx_retN, Sx_brk, Sx_cont, Sx_raise, Sx_if, Sx_ite, Sx_par, Sx_par3, Sx_asg, Sx_for, outK_ret, outK_err, outK_brk, outK_cont, loopK_ret, loopK_err, loopK_brk, loopK_cont, W_rng1, rngK_i, W_rng2, rngK2_i, W_seq, seqK_t, seqK_l, W_enumA, enumK_t, enumK_l, W_zip2, oCat_i, oSub_i, oNeg_i, oLt_i, oLe_i, oGt_i, oGe_i, oInt_i, oAbs_i, oMax2_i, oMin2_i, oGcd_i, oIsN_ap, oNotN_ap, oEq_i, oNe_i, oNe_b, oEq_b, gTup_ap, gAll_cons, gNm_ap, gAll_nil, List.set, decide_eq_true_eq, decide_eq_false_iff_not, if_true, if_false, Bool.not_eq_true, Bool.not_eq_true', Bool.false_eq_true, true_and, and_true, Option.some.injEq, exists_eq_left', exists_eq_left, beq_iff_eq, beq_eq_false_iff_ne, optR_some, R.bind, W_lc, atI_c0, atI_c1, atI_c2, Sx_try, tryK_ret, tryK_brk, tryK_cont, offK_ret, offK_brk, offK_cont, Bool.not_true, Bool.not_false, Bool.true_eq_false, not_true_eq_false, not_false_eq_true, true_implies, false_implies, implies_true, Bool.or_false, Bool.or_true, Bool.and_true, Bool.and_false, Bool.true_and, Bool.false_and, Bool.true_or, Bool.false_or, W_str1, strK_s, W_dstr1, strKF_s, st_starts, W_seqS, seqSK_s, W_sl, W_oPart, W_oNo, partK_i, decide_true, decide_false, in_sgn]
      have gB2 : (U1.set S1.length (.lst A'))[T.length]? = some (.lst B) := by rw [List.getElem?_set_ne (by omega)]; exact gB1
      have gA2 : (U1.set S1.length (.lst A'))[S1.length]? = some (.lst A') := List.getElem?_set_self (lt_of_get gA1)
      have F2 : Fx S (U1.set S1.length (.lst A')) p := (FU.trans (Fx.of F1)).setN (by omega)
      have P2 : PotC (N + 1 + i + 1) (U1.set S1.length (.lst A')) p := P1.same (List.getElem?_set_ne (by omega))
      generalize U1.set S1.length (.lst A') = U2 at *
      rw [app_ok gB2 (by omega)]
      refine ⟨P2.same (List.getElem?_set_ne (by omega)), F2.setN (by omega), A', B ++ [c], _, _, by rw [List.getElem?_set_ne (by omega)]; exact gA2, ?_, ?_, by rw [List.length_append, hB]; rfl, rfl⟩
      · rw [List.getElem?_set_self (lt_of_get gB2)]
      · rw [List.append_assoc]
        exact (hA'.append_left B).trans hAB
    · rintro e U ⟨PU, FU, A, B, a, b, gA, gB, hAB, hB, rfl⟩
      have hlen : B.length + A.length = rows.length := by
        have := hAB.length_eq
        rw [List.length_append] at this
        exact this
      have hA : A = [] := List.eq_nil_of_length_eq_zero (by omega)
      subst hA
      rw [List.append_nil] at hAB
      try simp -implicitDefEqProofs only [Sat_ok, Sat_err, Sat_bad, Sat_bind, Sat_ite, W_var, W_vars, W_c, W_nil, W_cons, W_tup, W_lst, W_new, W_bin, W_un, W_fn, W_dfn, W_call, W_callP, W_if, W_isi, W_val, W_setI, W_app, W_pop, W_popAt, W_ins, W_augI, andK_b, orK_b, W_and, W_or, notK_b, W_not, boolK_b, W_tval, W_tnot, W_tand, W_tor, W_tyes, W_mul, W_mod, W_fdiv, W_pow, W_idxT, W_idxL, Sx_next, Sx_seq, Sx_pass, Sx_expr, Sx_set, Sx_ret, Sx_retN, Sx_brk, Sx_cont, Sx_raise, Sx_if, Sx_ite, Sx_par, Sx_par3, Sx_asg, Sx_for, outK_ret, outK_err, outK_brk, outK_cont, loopK_ret, loopK_err, loopK_brk, loopK_cont, W_rng1, rngK_i, W_rng2, rngK2_i, W_seq, seqK_t, seqK_l, W_enumA, enumK_t, enumK_l, W_zip2, oCat_i, oSub_i, oNeg_i, oLt_i, oLe_i, oGt_i, oGe_i, oInt_i, oAbs_i, oMax2_i, oMin2_i, oGcd_i, oIsN_ap, oNotN_ap, oEq_i, oNe_i, oNe_b, oEq_b, gTup_ap, gAll_cons, gNm_ap, gAll_nil, List.set, decide_eq_true_eq, decide_eq_false_iff_not, if_true, if_false, Bool.not_eq_true, Bool.not_eq_true', Bool.false_eq_true, true_and, and_true, Option.some.injEq, exists_eq_left', exists_eq_left, beq_iff_eq, beq_eq_false_iff_ne, optR_some, R.bind, W_lc, atI_c0, atI_c1, atI_c2, Sx_try, tryK_ret, tryK_brk, tryK_cont, offK_ret, offK_brk, offK_cont, Bool.not_true, Bool.not_false, Bool.true_eq_false, not_true_eq_false, not_false_eq_true, true_implies, false_implies, implies_true, Bool.or_false, Bool.or_true, Bool.and_true, Bool.and_false, Bool.true_and, Bool.false_and, Bool.true_or, Bool.false_or, W_str1, strK_s, W_dstr1, strKF_s, st_starts, W_seqS, seqSK_s, W_sl, W_oPart, W_oNo, partK_i, decide_true, decide_false, in_sgn]
      exact ⟨PU.mono (by omega), FU, .inr ⟨_, _, rfl, by omega, gB, nop hAB, _, rfl, hAB⟩⟩
end K73

set_option maxHeartbeats 4000000
namespace K73
open Py
open PySem (Str sizeLine)
open TL (tl)
variable {n : Nat} {S : Store} {Γ : Calls} {cs : List Nat}
theorem map_take' {l : List (List Nat)} {k : Nat} : (l.map dm).take k = (l.take k).map dm := (List.map_take).symm
theorem map_drop' {l : List (List Nat)} {k : Nat} : (l.map dm).drop k = (l.drop k).map dm := (List.map_drop).symm
/-- a part of a list -/
def SubD (due : List (List Nat)) (d : D) : Prop := ∃ r : List (List Nat), d = .lst (r.map dm) ∧ r.Sublist due
/-- _law_some -/
theorem some_ok {N p : Nat} {due : List (List Nat)} (tk : TkC Γ 9) (hP : PotC N S p) (hN : N + 30000 ≤ 1000000) (hl : due.length ≤ 20000) :
    Sat (runBody (d13 Γ) 5 [.ref p, .lst (due.map dm)] S) (fun d S' => PotC (N + 20002) S' p ∧ Fx S S' p ∧ ((noRef d = true ∧ SubD due d) ∨ ∃ q xs, d = .ref q ∧ S.length ≤ q ∧ S'[q]? = some (.lst xs) ∧ noRefL xs = true ∧ SubD due (.lst xs))) (fun _ _ _ => False) := by
  have hp := hP.lt
  unfold d13
  rw [Sat_body]; simp -implicitDefEqProofs only [List.map_cons, List.map_nil, List.length_cons, List.length_nil, List.replicate, List.cons_append, List.nil_append]
  try simp -implicitDefEqProofs only [Sat_ok, Sat_err, Sat_bad, Sat_bind, Sat_ite, W_var, W_vars, W_c, W_nil, W_cons, W_tup, W_lst, W_new, W_bin, W_un, W_fn, W_dfn, W_call, W_callP, W_if, W_isi, W_val, W_setI, W_app, W_pop, W_popAt, W_ins, W_augI, andK_b, orK_b, W_and, W_or, notK_b, W_not, boolK_b, W_tval, W_tnot, W_tand, W_tor, W_tyes, W_mul, W_mod, W_fdiv, W_pow, W_idxT, W_idxL, Sx_next, Sx_seq, Sx_pass, Sx_expr, Sx_set, Sx_ret, Sx_retN, Sx_brk, Sx_cont, Sx_raise, Sx_if, Sx_ite, Sx_par, Sx_par3, Sx_asg, Sx_for, outK_ret, outK_err, outK_brk, outK_cont, loopK_ret, loopK_err, loopK_brk, loopK_cont, W_rng1, rngK_i, W_rng2, rngK2_i, W_seq, seqK_t, seqK_l, W_enumA, enumK_t, enumK_l, W_zip2, oCat_i, oSub_i, oNeg_i, oLt_i, oLe_i, oGt_i, oGe_i, oInt_i, oAbs_i, oMax2_i, oMin2_i, oGcd_i, oIsN_ap, oNotN_ap, oEq_i, oNe_i, oNe_b, oEq_b, gTup_ap, gAll_cons, gNm_ap, gAll_nil, List.set, decide_eq_true_eq, decide_eq_false_iff_not, if_true, if_false, Bool.not_eq_true, Bool.not_eq_true', Bool.false_eq_true, true_and, and_true, Option.some.injEq, exists_eq_left', exists_eq_left, beq_iff_eq, beq_eq_false_iff_ne, optR_some, R.bind, W_lc, atI_c0, atI_c1, atI_c2, Sx_try, tryK_ret, tryK_brk, tryK_cont, offK_ret, offK_brk, offK_cont, Bool.not_true, Bool.not_false, Bool.true_eq_false, not_true_eq_false, not_false_eq_true, true_implies, false_implies, implies_true, Bool.or_false, Bool.or_true, Bool.and_true, Bool.and_false, Bool.true_and, Bool.false_and, Bool.true_or, Bool.false_or, W_str1, strK_s, W_dstr1, strKF_s, st_starts, W_seqS, seqSK_s, W_sl, W_oPart, W_oNo, partK_i, decide_true, decide_false, in_sgn]
  refine Sat_use0 (tk hP (by decide) (by decide) (by omega)) ?_
  rintro _ S1 ⟨v, rfl, v0, v1, P1, F1⟩
  simp -implicitDefEqProofs only [Sat_ok, Sat_err, Sat_bad, Sat_bind, Sat_ite, W_var, W_vars, W_c, W_nil, W_cons, W_tup, W_lst, W_new, W_bin, W_un, W_fn, W_dfn, W_call, W_callP, W_if, W_isi, W_val, W_setI, W_app, W_pop, W_popAt, W_ins, W_augI, andK_b, orK_b, W_and, W_or, notK_b, W_not, boolK_b, W_tval, W_tnot, W_tand, W_tor, W_tyes, W_mul, W_mod, W_fdiv, W_pow, W_idxT, W_idxL, Sx_next, Sx_seq, Sx_pass, Sx_expr, Sx_set, Sx_ret, Sx_retN, Sx_brk, Sx_cont, Sx_raise, Sx_if, Sx_ite, Sx_par, Sx_par3, Sx_asg, Sx_for, outK_ret, outK_err, outK_brk, outK_cont, loopK_ret, loopK_err, loopK_brk, loopK_cont, W_rng1, rngK_i, W_rng2, rngK2_i, W_seq, seqK_t, seqK_l, W_enumA, enumK_t, enumK_l, W_zip2, oCat_i, oSub_i, oNeg_i, oLt_i, oLe_i, oGt_i, oGe_i, oInt_i, oAbs_i, oMax2_i, oMin2_i, oGcd_i, oIsN_ap, oNotN_ap, oEq_i, oNe_i, oNe_b, oEq_b, gTup_ap, gAll_cons, gNm_ap, gAll_nil, List.set, decide_eq_true_eq, decide_eq_false_iff_not, if_true, if_false, Bool.not_eq_true, Bool.not_eq_true', Bool.false_eq_true, true_and, and_true, Option.some.injEq, exists_eq_left', exists_eq_left, beq_iff_eq, beq_eq_false_iff_ne, optR_some, R.bind, W_lc, atI_c0, atI_c1, atI_c2, Sx_try, tryK_ret, tryK_brk, tryK_cont, offK_ret, offK_brk, offK_cont, Bool.not_true, Bool.not_false, Bool.true_eq_false, not_true_eq_false, not_false_eq_true, true_implies, false_implies, implies_true, Bool.or_false, Bool.or_true, Bool.and_true, Bool.and_false, Bool.true_and, Bool.false_and, Bool.true_or, Bool.false_or, W_str1, strK_s, W_dstr1, strKF_s, st_starts, W_seqS, seqSK_s, W_sl, W_oPart, W_oNo, partK_i, decide_true, decide_false, in_sgn, len_l]
  have hlm : (due.map dm).length = due.length := List.length_map _
  refine Sat_use0 (tk (m := ((due.map dm).length : Int) + 1) P1 (by omega) (sm (B := 100000) (by omega) (by decide)) (by omega)) ?_
  rintro _ S2 ⟨w, rfl, w0, w1, P2, F2⟩
  obtain ⟨k, rfl⟩ : ∃ k : Nat, w = k := ⟨w.toNat, by omega⟩
  have FA : Fx S S2 p := (Fx.of F1).trans (Fx.of F2)
  have PA : PotC (N + 20002) S2 p := P2.mono (by omega)
  have fin : ∀ {r : List (List Nat)}, r.Sublist due → (PotC (N + 20002) S2 p ∧ Fx S S2 p ∧ ((noRef (.lst (r.map dm)) = true ∧ SubD due (.lst (r.map dm))) ∨ ∃ q xs, D.lst (r.map dm) = .ref q ∧ S.length ≤ q ∧ S2[q]? = some (.lst xs) ∧ noRefL xs = true ∧ SubD due (.lst xs))) := fun {r} h =>
    ⟨PA, FA, .inl ⟨by unfold noRef; exact no_dm, r, rfl, h⟩⟩
  have e1 : ((k : Int) + 1) = ((k + 1 : Nat) : Int) := by omega
  simp -implicitDefEqProofs only [Sat_ok, Sat_err, Sat_bad, Sat_bind, Sat_ite, W_var, W_vars, W_c, W_nil, W_cons, W_tup, W_lst, W_new, W_bin, W_un, W_fn, W_dfn, W_call, W_callP, W_if, W_isi, W_val, W_setI, W_app, W_pop, W_popAt, W_ins, W_augI, andK_b, orK_b, W_and, W_or, notK_b, W_not, boolK_b, W_tval, W_tnot, W_tand, W_tor, W_tyes, W_mul, W_mod, W_fdiv, W_pow, W_idxT, W_idxL, Sx_next, Sx_seq, Sx_pass, Sx_expr, Sx_set, Sx_ret, Sx_retN, Sx_brk, Sx_cont, Sx_raise, Sx_if, Sx_ite, Sx_par, Sx_par3, Sx_asg, Sx_for, outK_ret, outK_err, outK_brk, outK_cont, loopK_ret, loopK_err, loopK_brk, loopK_cont, W_rng1, rngK_i, W_rng2, rngK2_i, W_seq, seqK_t, seqK_l, W_enumA, enumK_t, enumK_l, W_zip2, oCat_i, oSub_i, oNeg_i, oLt_i, oLe_i, oGt_i, oGe_i, oInt_i, oAbs_i, oMax2_i, oMin2_i, oGcd_i, oIsN_ap, oNotN_ap, oEq_i, oNe_i, oNe_b, oEq_b, gTup_ap, gAll_cons, gNm_ap, gAll_nil, List.set, decide_eq_true_eq, decide_eq_false_iff_not, if_true, if_false, Bool.not_eq_true, Bool.not_eq_true', Bool.false_eq_true, true_and, and_true, Option.some.injEq, exists_eq_left', exists_eq_left, beq_iff_eq, beq_eq_false_iff_ne, optR_some, R.bind, W_lc, atI_c0, atI_c1, atI_c2, Sx_try, tryK_ret, tryK_brk, tryK_cont, offK_ret, offK_brk, offK_cont, Bool.not_true, Bool.not_false, Bool.true_eq_false, not_true_eq_false, not_false_eq_true, true_implies, false_implies, implies_true, Bool.or_false, Bool.or_true, Bool.and_true, Bool.and_false, Bool.true_and, Bool.false_and, Bool.true_or, Bool.false_or, W_str1, strK_s, W_dstr1, strKF_s, st_starts, W_seqS, seqSK_s, W_sl, W_oPart, W_oNo, partK_i, decide_true, decide_false, in_sgn, list_ok asSq_l, sl_l asL_l, e1, cut_to, cut_from, map_take', map_drop']
  refine ⟨fun _ => fin (r := []) (List.nil_sublist _), fun _ => ⟨fun _ => fin (List.Sublist.refl _), fun _ => ⟨fun _ => fin (List.take_sublist _ _), fun _ => ⟨fun _ => ?_, fun _ => ⟨fun _ => fin (List.drop_sublist _ _), fun _ => ?_⟩⟩⟩⟩⟩
  · rw [cat_l asL_l asL_l (by rw [List.length_map, List.length_map, List.length_take, List.length_drop]; omega), ← List.map_append]
    refine fin ?_
    conv => rhs; rw [← List.take_append_drop k due]
    refine List.Sublist.append (List.Sublist.refl _) ?_
    rw [← List.drop_drop]
    exact List.drop_sublist _ _
  · have hp2 := P2.lt
    refine Sat_lcK (fun i acc S' => ∃ r : List (List Nat), acc = r.map dm ∧ r.Sublist (due.take i) ∧ i ≤ due.length ∧ PotC (N + 2 + i) S' p ∧ S'.length = S2.length + 1 ∧ S'[S2.length]? = some (.lst acc) ∧ ∀ k, k < S2.length → k ≠ p → S'[k]? = S2[k]?) ⟨[], rfl, List.nil_sublist _, Nat.zero_le _, P2.app.mono (by omega), by rw [List.length_append]; rfl, new_at, fun k hk _ => List.getElem?_append_left hk⟩ ?_ ?_
    · rintro i x acc S' hx ⟨r, rfl, h1, h2, h3, h4, h5, h6⟩
      obtain ⟨hi, hx2⟩ := List.getElem?_eq_some_iff.mp hx
      rw [List.length_map] at hi
      have hxc : x = dm due[i] := by rw [← hx2, List.getElem_map]
      subst hxc
      refine ⟨_, rfl, ?_⟩
      have ht : due.take (i + 1) = due.take i ++ [due[i]] := List.take_succ_eq_append_getElem hi
      simp -implicitDefEqProofs only [Sat_ok, Sat_err, Sat_bad, Sat_bind, Sat_ite, W_var, W_vars, W_c, W_nil, W_cons, W_tup, W_lst, W_new, W_bin, W_un, W_fn, W_dfn, W_call, W_callP, W_if, W_isi, W_val, W_setI, W_app, W_pop, W_popAt, W_ins, W_augI, andK_b, orK_b, W_and, W_or, notK_b, W_not, boolK_b, W_tval, W_tnot, W_tand, W_tor, W_tyes, W_mul, W_mod, W_fdiv, W_pow, W_idxT, W_idxL, Sx_next, Sx_seq, Sx_pass, Sx_expr, Sx_set, Sx_ret, Sx_retN, Sx_brk, Sx_cont, Sx_raise, Sx_if, Sx_ite, Sx_par, Sx_par3, Sx_asg, Sx_for, outK_ret, outK_err, outK_brk, outK_cont, loopK_ret, loopK_err, loopK_brk, loopK_cont, W_rng1, rngK_i, W_rng2, rngK2_i, W_seq, seqK_t, seqK_l, W_enumA, enumK_t, enumK_l, W_zip2, oCat_i, oSub_i, oNeg_i, oLt_i, oLe_i, oGt_i, oGe_i, oInt_i, oAbs_i, oMax2_i, oMin2_i, oGcd_i, oIsN_ap, oNotN_ap, oEq_i, oNe_i, oNe_b, oEq_b, gTup_ap, gAll_cons, gNm_ap, gAll_nil, List.set, decide_eq_true_eq, decide_eq_false_iff_not, if_true, if_false, Bool.not_eq_true, Bool.not_eq_true', Bool.false_eq_true, true_and, and_true, Option.some.injEq, exists_eq_left', exists_eq_left, beq_iff_eq, beq_eq_false_iff_ne, optR_some, R.bind, W_lc, atI_c0, atI_c1, atI_c2, Sx_try, tryK_ret, tryK_brk, tryK_cont, offK_ret, offK_brk, offK_cont, Bool.not_true, Bool.not_false, Bool.true_eq_false, not_true_eq_false, not_false_eq_true, true_implies, false_implies, implies_true, Bool.or_false, Bool.or_true, Bool.and_true, Bool.and_false, Bool.true_and, Bool.false_and, Bool.true_or, Bool.false_or, W_str1, strK_s, W_dstr1, strKF_s, st_starts, W_seqS, seqSK_s, W_sl, W_oPart, W_oNo, partK_i, decide_true, decide_false, in_sgn, wipeE]
      refine Sat_use0 (tk h3 (by decide) (by decide) (by omega)) ?_
      rintro _ S3 ⟨u, rfl, u0, u1, P3, F3⟩
      have g5 : S3[S2.length]? = some (.lst (r.map dm)) := (F3.2 _ (by omega)).trans h5
      have hr := h1.length_le
      rw [List.length_take] at hr
      try simp -implicitDefEqProofs only [Sat_ok, Sat_err, Sat_bad, Sat_bind, Sat_ite, W_var, W_vars, W_c, W_nil, W_cons, W_tup, W_lst, W_new, W_bin, W_un, W_fn, W_dfn, W_call, W_callP, W_if, W_isi, W_val, W_setI, W_app, W_pop, W_popAt, W_ins, W_augI, andK_b, orK_b, W_and, W_or, notK_b, W_not, boolK_b, W_tval, W_tnot, W_tand, W_tor, W_tyes, W_mul, W_mod, W_fdiv, W_pow, W_idxT, W_idxL, Sx_next, Sx_seq, Sx_pass, Sx_expr, Sx_set, Sx_ret, Sx_retN, Sx_brk, Sx_cont, Sx_raise, Sx_if, Sx_ite, Sx_par, Sx_par3, Sx_asg, Sx_for, outK_ret, outK_err, outK_brk, outK_cont, loopK_ret, loopK_err, loopK_brk, loopK_cont, W_rng1, rngK_i, W_rng2, rngK2_i, W_seq, seqK_t, seqK_l, W_enumA, enumK_t, enumK_l, W_zip2, oCat_i, oSub_i, oNeg_i, oLt_i, oLe_i, oGt_i, oGe_i, oInt_i, oAbs_i, oMax2_i, oMin2_i, oGcd_i, oIsN_ap, oNotN_ap, oEq_i, oNe_i, oNe_b, oEq_b, gTup_ap, gAll_cons, gNm_ap, gAll_nil, List.set, decide_eq_true_eq, decide_eq_false_iff_not, if_true, if_false, Bool.not_eq_true, Bool.not_eq_true', Bool.false_eq_true, true_and, and_true, Option.some.injEq, exists_eq_left', exists_eq_left, beq_iff_eq, beq_eq_false_iff_ne, optR_some, R.bind, W_lc, atI_c0, atI_c1, atI_c2, Sx_try, tryK_ret, tryK_brk, tryK_cont, offK_ret, offK_brk, offK_cont, Bool.not_true, Bool.not_false, Bool.true_eq_false, not_true_eq_false, not_false_eq_true, true_implies, false_implies, implies_true, Bool.or_false, Bool.or_true, Bool.and_true, Bool.and_false, Bool.true_and, Bool.false_and, Bool.true_or, Bool.false_or, W_str1, strK_s, W_dstr1, strKF_s, st_starts, W_seqS, seqSK_s, W_sl, W_oPart, W_oNo, partK_i, decide_true, decide_false, in_sgn]
      by_cases hu : 0 < u
      · rw [if_pos hu]
        refine ⟨g5, by rw [List.length_map, slz]; omega, r ++ [due[i]], by rw [List.map_append]; rfl, by rw [ht]; exact h1.append (List.Sublist.refl _), by omega, P3.same (List.getElem?_set_ne (by omega)), by rw [List.length_set]; exact F3.1.trans h4, List.getElem?_set_self (lt_of_get g5), fun k hk hkp => ?_⟩
        rw [List.getElem?_set_ne (by omega), F3.2 k hkp, h6 k hk hkp]
      · rw [if_neg hu]
        exact ⟨r, rfl, by rw [ht]; exact h1.trans (List.sublist_append_left _ _), by omega, P3, F3.1.trans h4, g5, fun k hk hkp => by rw [F3.2 k hkp, h6 k hk hkp]⟩
    · rintro acc S' ⟨r, rfl, h1, h2, h3, h4, h5, h6⟩
      rw [List.length_map] at h1 h2 h3
      rw [List.take_length] at h1
      refine ⟨h4, h5, no_dm, h3.old h6, (h3.take hp2).mono (by omega), ?_, .inl ⟨by unfold noRef; exact no_dm, r, rfl, h1⟩⟩
      have : Fx S2 S' p := ⟨by omega, h6⟩
      exact FA.trans (Fx.of this.takeF)
/-- a row of drawn letters -/
theorem row_of {ds : List D} : ∀ {m : Nat}, ds.length = m → (∀ (i : Nat) (d : D), ds[i]? = some d → ∃ c ∈ cs, d = sgn c) → ∃ w : List Nat, ds = w.map sgn ∧ w.length = m ∧ ∀ c ∈ w, c ∈ cs := by
  induction ds with
  | nil => intro m h _; exact ⟨[], rfl, h, fun c hc => by cases hc⟩
  | cons d ds ih =>
    intro m h hd
    obtain ⟨w, h1, h2, h3⟩ := ih rfl fun i d hi => hd (i + 1) d hi
    obtain ⟨c, hc, rfl⟩ := hd 0 d rfl
    refine ⟨c :: w, by rw [h1]; rfl, by rw [← h]; simp [h2], fun x hx => ?_⟩
    rcases List.mem_cons.mp hx with rfl | hx
    · exact hc
    · exact h3 x hx
/-- _law_longer -/
def LongD (cs : List Nat) (most : Nat) (d : D) : Prop := ∃ ws : List (List Nat), d = .lst (ws.map dm) ∧ ws.Nodup ∧ ws.length ≤ 2 ∧ ∀ w ∈ ws, 2 * most ≤ w.length ∧ w.length ≤ 2 * most + 1 ∧ ∀ c ∈ w, c ∈ cs
theorem longer_ok {N p most : Nat} (tk : TkC Γ 9) (hc : Ls cs) (hP : PotC N S p) (hN : N + 100 ≤ 1000000) (hm : most ≤ 8) :
    Sat (runBody (d14 Γ) 6 [.ref p, .str (sx cs), .int (most : Nat)] S) (fun d S' => PotC (N + 100) S' p ∧ Fx S S' p ∧ ((noRef d = true ∧ LongD cs most d) ∨ ∃ q xs, d = .ref q ∧ S.length ≤ q ∧ S'[q]? = some (.lst xs) ∧ noRefL xs = true ∧ LongD cs most (.lst xs))) (fun _ _ _ => False) := by
  have hp := hP.lt
  have hne : cs.length ≠ 0 := fun h => hc.ne (List.eq_nil_of_length_eq_zero h)
  have hcl := hc.len
  unfold d14
  rw [Sat_body]; simp -implicitDefEqProofs only [List.map_cons, List.map_nil, List.length_cons, List.length_nil, List.replicate, List.cons_append, List.nil_append]
  try simp -implicitDefEqProofs only [Sat_ok, Sat_err, Sat_bad, Sat_bind, Sat_ite, W_var, W_vars, W_c, W_nil, W_cons, W_tup, W_lst, W_new, W_bin, W_un, W_fn, W_dfn, W_call, W_callP, W_if, W_isi, W_val, W_setI, W_app, W_pop, W_popAt, W_ins, W_augI, andK_b, orK_b, W_and, W_or, notK_b, W_not, boolK_b, W_tval, W_tnot, W_tand, W_tor, W_tyes, W_mul, W_mod, W_fdiv, W_pow, W_idxT, W_idxL, Sx_next, Sx_seq, Sx_pass, Sx_expr, Sx_set, Sx_ret, Sx_retN, Sx_brk, Sx_cont, Sx_raise, Sx_if, Sx_ite, Sx_par, Sx_par3, Sx_asg, Sx_for, outK_ret, outK_err, outK_brk, outK_cont, loopK_ret, loopK_err, loopK_brk, loopK_cont, W_rng1, rngK_i, W_rng2, rngK2_i, W_seq, seqK_t, seqK_l, W_enumA, enumK_t, enumK_l, W_zip2, oCat_i, oSub_i, oNeg_i, oLt_i, oLe_i, oGt_i, oGe_i, oInt_i, oAbs_i, oMax2_i, oMin2_i, oGcd_i, oIsN_ap, oNotN_ap, oEq_i, oNe_i, oNe_b, oEq_b, gTup_ap, gAll_cons, gNm_ap, gAll_nil, List.set, decide_eq_true_eq, decide_eq_false_iff_not, if_true, if_false, Bool.not_eq_true, Bool.not_eq_true', Bool.false_eq_true, true_and, and_true, Option.some.injEq, exists_eq_left', exists_eq_left, beq_iff_eq, beq_eq_false_iff_ne, optR_some, R.bind, W_lc, atI_c0, atI_c1, atI_c2, Sx_try, tryK_ret, tryK_brk, tryK_cont, offK_ret, offK_brk, offK_cont, Bool.not_true, Bool.not_false, Bool.true_eq_false, not_true_eq_false, not_false_eq_true, true_implies, false_implies, implies_true, Bool.or_false, Bool.or_true, Bool.and_true, Bool.and_false, Bool.true_and, Bool.false_and, Bool.true_or, Bool.false_or, W_str1, strK_s, W_dstr1, strKF_s, st_starts, W_seqS, seqSK_s, W_sl, W_oPart, W_oNo, partK_i, decide_true, decide_false, in_sgn]
  refine Sat_use0 (tk (hP.app) (by decide) (by decide) (by omega)) ?_
  rintro _ S1 ⟨v, rfl, v0, v1, P1, F1⟩
  try simp -implicitDefEqProofs only [Sat_ok, Sat_err, Sat_bad, Sat_bind, Sat_ite, W_var, W_vars, W_c, W_nil, W_cons, W_tup, W_lst, W_new, W_bin, W_un, W_fn, W_dfn, W_call, W_callP, W_if, W_isi, W_val, W_setI, W_app, W_pop, W_popAt, W_ins, W_augI, andK_b, orK_b, W_and, W_or, notK_b, W_not, boolK_b, W_tval, W_tnot, W_tand, W_tor, W_tyes, W_mul, W_mod, W_fdiv, W_pow, W_idxT, W_idxL, Sx_next, Sx_seq, Sx_pass, Sx_expr, Sx_set, Sx_ret, Sx_retN, Sx_brk, Sx_cont, Sx_raise, Sx_if, Sx_ite, Sx_par, Sx_par3, Sx_asg, Sx_for, outK_ret, outK_err, outK_brk, outK_cont, loopK_ret, loopK_err, loopK_brk, loopK_cont, W_rng1, rngK_i, W_rng2, rngK2_i, W_seq, seqK_t, seqK_l, W_enumA, enumK_t, enumK_l, W_zip2, oCat_i, oSub_i, oNeg_i, oLt_i, oLe_i, oGt_i, oGe_i, oInt_i, oAbs_i, oMax2_i, oMin2_i, oGcd_i, oIsN_ap, oNotN_ap, oEq_i, oNe_i, oNe_b, oEq_b, gTup_ap, gAll_cons, gNm_ap, gAll_nil, List.set, decide_eq_true_eq, decide_eq_false_iff_not, if_true, if_false, Bool.not_eq_true, Bool.not_eq_true', Bool.false_eq_true, true_and, and_true, Option.some.injEq, exists_eq_left', exists_eq_left, beq_iff_eq, beq_eq_false_iff_ne, optR_some, R.bind, W_lc, atI_c0, atI_c1, atI_c2, Sx_try, tryK_ret, tryK_brk, tryK_cont, offK_ret, offK_brk, offK_cont, Bool.not_true, Bool.not_false, Bool.true_eq_false, not_true_eq_false, not_false_eq_true, true_implies, false_implies, implies_true, Bool.or_false, Bool.or_true, Bool.and_true, Bool.and_false, Bool.true_and, Bool.false_and, Bool.true_or, Bool.false_or, W_str1, strK_s, W_dstr1, strKF_s, st_starts, W_seqS, seqSK_s, W_sl, W_oPart, W_oNo, partK_i, decide_true, decide_false, in_sgn]
  refine ⟨inR_of (by omega) (by omega), ?_⟩
  have g1 : S1[S.length]? = some (.lst []) := (F1.2 _ (by omega)).trans new_at
  refine Sx_rng v.toNat rfl (fun i e U => PotC (N + 1 + i * 40) U p ∧ Fx S U p ∧ ∃ ws a b, U[S.length]? = some (.lst (ws.map dm)) ∧ e = [some (.ref p), some (.str (sx cs)), some (.int (most : Nat)), some (.ref S.length), a, b] ∧ ws.Nodup ∧ ws.length = i ∧ ∀ w ∈ ws, 2 * most ≤ w.length ∧ w.length < 2 * most + i ∧ ∀ c ∈ w, c ∈ cs)
    ⟨P1.mono (by omega), Fx.app.trans (Fx.of F1), [], none, none, g1, rfl, List.nodup_nil, rfl, fun w hw => by cases hw⟩ ?_ ?_
  · rintro i e U hi ⟨PU, FU, ws, a, b, gU, rfl, h1, h2, h3⟩
    have hm2 : mulOk 2 (most : Int) = true := mulOk_small (by decide) (sm (B := 100) (by omega) (by decide))
    simp -implicitDefEqProofs only [Sat_ok, Sat_err, Sat_bad, Sat_bind, Sat_ite, W_var, W_vars, W_c, W_nil, W_cons, W_tup, W_lst, W_new, W_bin, W_un, W_fn, W_dfn, W_call, W_callP, W_if, W_isi, W_val, W_setI, W_app, W_pop, W_popAt, W_ins, W_augI, andK_b, orK_b, W_and, W_or, notK_b, W_not, boolK_b, W_tval, W_tnot, W_tand, W_tor, W_tyes, W_mul, W_mod, W_fdiv, W_pow, W_idxT, W_idxL, Sx_next, Sx_seq, Sx_pass, Sx_expr, Sx_set, Sx_ret, Sx_retN, Sx_brk, Sx_cont, Sx_raise, Sx_if, Sx_ite, Sx_par, Sx_par3, Sx_asg, Sx_for, outK_ret, outK_err, outK_brk, outK_cont, loopK_ret, loopK_err, loopK_brk, loopK_cont, W_rng1, rngK_i, W_rng2, rngK2_i, W_seq, seqK_t, seqK_l, W_enumA, enumK_t, enumK_l, W_zip2, oCat_i, oSub_i, oNeg_i, oLt_i, oLe_i, oGt_i, oGe_i, oInt_i, oAbs_i, oMax2_i, oMin2_i, oGcd_i, oIsN_ap, oNotN_ap, oEq_i, oNe_i, oNe_b, oEq_b, gTup_ap, gAll_cons, gNm_ap, gAll_nil, List.set, decide_eq_true_eq, decide_eq_false_iff_not, if_true, if_false, Bool.not_eq_true, Bool.not_eq_true', Bool.false_eq_true, true_and, and_true, Option.some.injEq, exists_eq_left', exists_eq_left, beq_iff_eq, beq_eq_false_iff_ne, optR_some, R.bind, W_lc, atI_c0, atI_c1, atI_c2, Sx_try, tryK_ret, tryK_brk, tryK_cont, offK_ret, offK_brk, offK_cont, Bool.not_true, Bool.not_false, Bool.true_eq_false, not_true_eq_false, not_false_eq_true, true_implies, false_implies, implies_true, Bool.or_false, Bool.or_true, Bool.and_true, Bool.and_false, Bool.true_and, Bool.false_and, Bool.true_or, Bool.false_or, W_str1, strK_s, W_dstr1, strKF_s, st_starts, W_seqS, seqSK_s, W_sl, W_oPart, W_oNo, partK_i, decide_true, decide_false, in_sgn, W_rcv, rcv_ok gU, oRep_i hm2]
    refine ⟨inR_of (by omega) (by omega), ?_⟩
    have hlen : (intsD 0 (2 * (most : Int) + (i : Int)).toNat).length = 2 * most + i := by rw [intsD_length]; omega
    refine Sat_drawC 1 (fun _ _ d => ∃ c ∈ cs, d = sgn c) PU ?_ (by rw [hlen, slz]; omega) ?_
    · intro j x U1 hx PU1
      have hj := (List.getElem?_eq_some_iff.mp hx).1
      rw [hlen] at hj
      refine ⟨_, rfl, ?_⟩
      simp -implicitDefEqProofs only [Sat_ok, Sat_err, Sat_bad, Sat_bind, Sat_ite, W_var, W_vars, W_c, W_nil, W_cons, W_tup, W_lst, W_new, W_bin, W_un, W_fn, W_dfn, W_call, W_callP, W_if, W_isi, W_val, W_setI, W_app, W_pop, W_popAt, W_ins, W_augI, andK_b, orK_b, W_and, W_or, notK_b, W_not, boolK_b, W_tval, W_tnot, W_tand, W_tor, W_tyes, W_mul, W_mod, W_fdiv, W_pow, W_idxT, W_idxL, Sx_next, Sx_seq, Sx_pass, Sx_expr, Sx_set, Sx_ret, Sx_retN, Sx_brk, Sx_cont, Sx_raise, Sx_if, Sx_ite, Sx_par, Sx_par3, Sx_asg, Sx_for, outK_ret, outK_err, outK_brk, outK_cont, loopK_ret, loopK_err, loopK_brk, loopK_cont, W_rng1, rngK_i, W_rng2, rngK2_i, W_seq, seqK_t, seqK_l, W_enumA, enumK_t, enumK_l, W_zip2, oCat_i, oSub_i, oNeg_i, oLt_i, oLe_i, oGt_i, oGe_i, oInt_i, oAbs_i, oMax2_i, oMin2_i, oGcd_i, oIsN_ap, oNotN_ap, oEq_i, oNe_i, oNe_b, oEq_b, gTup_ap, gAll_cons, gNm_ap, gAll_nil, List.set, decide_eq_true_eq, decide_eq_false_iff_not, if_true, if_false, Bool.not_eq_true, Bool.not_eq_true', Bool.false_eq_true, true_and, and_true, Option.some.injEq, exists_eq_left', exists_eq_left, beq_iff_eq, beq_eq_false_iff_ne, optR_some, R.bind, W_lc, atI_c0, atI_c1, atI_c2, Sx_try, tryK_ret, tryK_brk, tryK_cont, offK_ret, offK_brk, offK_cont, Bool.not_true, Bool.not_false, Bool.true_eq_false, not_true_eq_false, not_false_eq_true, true_implies, false_implies, implies_true, Bool.or_false, Bool.or_true, Bool.and_true, Bool.and_false, Bool.true_and, Bool.false_and, Bool.true_or, Bool.false_or, W_str1, strK_s, W_dstr1, strKF_s, st_starts, W_seqS, seqSK_s, W_sl, W_oPart, W_oNo, partK_i, decide_true, decide_false, in_sgn, wipeE, len_s (x := sx cs) (by rw [mk_len]; omega)]
      have hml : ((sx cs).length : Int) = (cs.length : Int) := by rw [mk_len]
      rw [hml]
      refine Sat_use0 (tk (m := (cs.length : Int)) PU1 (by omega) (sm (B := 10) (by omega) (by decide)) (by omega)) ?_
      rintro _ U2 ⟨w, rfl, w0, w1, P2, F2⟩
      obtain ⟨c, ec, hcm⟩ := atI_some (xs := cs) w0 w1
      rw [idx_s (by rw [mk_len]; omega) (show L2.atI (tl (sx cs)) w = some c from ec)]
      exact ⟨P2, F2, rfl, c, hcm, rfl⟩
    · intro ds U1 hl hR hno P2 F2
      rw [hlen] at hl P2
      obtain ⟨w, rfl, hw, hwc⟩ := row_of (cs := cs) hl fun j d hd => by
        have hj : j < (intsD 0 (2 * (most : Int) + (i : Int)).toNat).length := by rw [hlen, ← hl]; exact (List.getElem?_eq_some_iff.mp hd).1
        exact hR j _ d (List.getElem?_eq_getElem hj) hd
      rw [join_ok (ms := w.map fun c => [c]) (by rw [← sgn_map]; rfl) (by rw [flat_one]; omega), flat_one]
      have g2 : U1[S.length]? = some (.lst (ws.map dm)) := (F2.2 _ (by omega)).trans gU
      try simp -implicitDefEqProofs only [Sat_ok, Sat_err, Sat_bad, Sat_bind, Sat_ite, W_var, W_vars, W_c, W_nil, W_cons, W_tup, W_lst, W_new, W_bin, W_un, W_fn, W_dfn, W_call, W_callP, W_if, W_isi, W_val, W_setI, W_app, W_pop, W_popAt, W_ins, W_augI, andK_b, orK_b, W_and, W_or, notK_b, W_not, boolK_b, W_tval, W_tnot, W_tand, W_tor, W_tyes, W_mul, W_mod, W_fdiv, W_pow, W_idxT, W_idxL, Sx_next, Sx_seq, Sx_pass, Sx_expr, Sx_set, Sx_ret, Sx_retN, Sx_brk, Sx_cont, Sx_raise, Sx_if, Sx_ite, Sx_par, Sx_par3, Sx_asg, Sx_for, outK_ret, outK_err, outK_brk, outK_cont, loopK_ret, loopK_err, loopK_brk, loopK_cont, W_rng1, rngK_i, W_rng2, rngK2_i, W_seq, seqK_t, seqK_l, W_enumA, enumK_t, enumK_l, W_zip2, oCat_i, oSub_i, oNeg_i, oLt_i, oLe_i, oGt_i, oGe_i, oInt_i, oAbs_i, oMax2_i, oMin2_i, oGcd_i, oIsN_ap, oNotN_ap, oEq_i, oNe_i, oNe_b, oEq_b, gTup_ap, gAll_cons, gNm_ap, gAll_nil, List.set, decide_eq_true_eq, decide_eq_false_iff_not, if_true, if_false, Bool.not_eq_true, Bool.not_eq_true', Bool.false_eq_true, true_and, and_true, Option.some.injEq, exists_eq_left', exists_eq_left, beq_iff_eq, beq_eq_false_iff_ne, optR_some, R.bind, W_lc, atI_c0, atI_c1, atI_c2, Sx_try, tryK_ret, tryK_brk, tryK_cont, offK_ret, offK_brk, offK_cont, Bool.not_true, Bool.not_false, Bool.true_eq_false, not_true_eq_false, not_false_eq_true, true_implies, false_implies, implies_true, Bool.or_false, Bool.or_true, Bool.and_true, Bool.and_false, Bool.true_and, Bool.false_and, Bool.true_or, Bool.false_or, W_str1, strK_s, W_dstr1, strKF_s, st_starts, W_seqS, seqSK_s, W_sl, W_oPart, W_oNo, partK_i, decide_true, decide_false, in_sgn]
      rw [app_ok g2 (by rw [List.length_map]; omega)]
      refine ⟨(P2.mono (by omega)).same (List.getElem?_set_ne (by omega)), (FU.trans (Fx.of F2)).setN (Nat.le_refl _), ws ++ [w], _, _, ?_, rfl, ?_, by rw [List.length_append, h2]; rfl, ?_⟩
      · rw [List.getElem?_set_self (lt_of_get g2), List.map_append]; rfl
      · rw [List.nodup_append]
        refine ⟨h1, by simp, fun x hx y hy e => ?_⟩
        rw [List.mem_singleton] at hy
        subst hy
        subst e
        have := (h3 _ hx).2.1
        omega
      · intro y hy
        rcases List.mem_append.mp hy with hy | hy
        · obtain ⟨a1, a2, a3⟩ := h3 y hy
          exact ⟨a1, by omega, a3⟩
        · rw [List.mem_singleton] at hy
          subst hy
          exact ⟨by omega, by omega, hwc⟩
  · rintro e U ⟨PU, FU, ws, a, b, gU, rfl, h1, h2, h3⟩
    try simp -implicitDefEqProofs only [Sat_ok, Sat_err, Sat_bad, Sat_bind, Sat_ite, W_var, W_vars, W_c, W_nil, W_cons, W_tup, W_lst, W_new, W_bin, W_un, W_fn, W_dfn, W_call, W_callP, W_if, W_isi, W_val, W_setI, W_app, W_pop, W_popAt, W_ins, W_augI, andK_b, orK_b, W_and, W_or, notK_b, W_not, boolK_b, W_tval, W_tnot, W_tand, W_tor, W_tyes, W_mul, W_mod, W_fdiv, W_pow, W_idxT, W_idxL, Sx_next, Sx_seq, Sx_pass, Sx_expr, Sx_set, Sx_ret, Sx_retN, Sx_brk, Sx_cont, Sx_raise, Sx_if, Sx_ite, Sx_par, Sx_par3, Sx_asg, Sx_for, outK_ret, outK_err, outK_brk, outK_cont, loopK_ret, loopK_err, loopK_brk, loopK_cont, W_rng1, rngK_i, W_rng2, rngK2_i, W_seq, seqK_t, seqK_l, W_enumA, enumK_t, enumK_l, W_zip2, oCat_i, oSub_i, oNeg_i, oLt_i, oLe_i, oGt_i, oGe_i, oInt_i, oAbs_i, oMax2_i, oMin2_i, oGcd_i, oIsN_ap, oNotN_ap, oEq_i, oNe_i, oNe_b, oEq_b, gTup_ap, gAll_cons, gNm_ap, gAll_nil, List.set, decide_eq_true_eq, decide_eq_false_iff_not, if_true, if_false, Bool.not_eq_true, Bool.not_eq_true', Bool.false_eq_true, true_and, and_true, Option.some.injEq, exists_eq_left', exists_eq_left, beq_iff_eq, beq_eq_false_iff_ne, optR_some, R.bind, W_lc, atI_c0, atI_c1, atI_c2, Sx_try, tryK_ret, tryK_brk, tryK_cont, offK_ret, offK_brk, offK_cont, Bool.not_true, Bool.not_false, Bool.true_eq_false, not_true_eq_false, not_false_eq_true, true_implies, false_implies, implies_true, Bool.or_false, Bool.or_true, Bool.and_true, Bool.and_false, Bool.true_and, Bool.false_and, Bool.true_or, Bool.false_or, W_str1, strK_s, W_dstr1, strKF_s, st_starts, W_seqS, seqSK_s, W_sl, W_oPart, W_oNo, partK_i, decide_true, decide_false, in_sgn]
    refine ⟨PU.mono (by omega), FU, .inr ⟨_, _, rfl, Nat.le_refl _, gU, no_dm, ws, rfl, h1, by omega, fun w hw => ?_⟩⟩
    obtain ⟨a1, a2, a3⟩ := h3 w hw
    exact ⟨a1, by omega, a3⟩
end K73

set_option maxHeartbeats 4000000
namespace K73
open Py
open PySem (Str sizeLine)
open TL (tl)
variable {n : Nat} {S : Store} {Γ : Calls} {cs : List Nat}
theorem pure_dm {L : Nat} (hc : Ls cs) : ∀ {l : List (List Nat)}, (∀ m ∈ l, Tx cs L m) → pureL (l.map dm) = true ∧ depthL (l.map dm) = 0
  | [], _ => ⟨rfl, rfl⟩
  | a :: l, h => by
    obtain ⟨h1, h2⟩ := pure_dm hc fun m hm => h m (List.mem_cons_of_mem _ hm)
    have ho := ((h a List.mem_cons_self).okx hc).ok
    rw [List.map_cons]
    unfold pureL depthL
    rw [h1, h2]
    refine ⟨?_, rfl⟩
    rw [Bool.and_true]
    unfold dm pureB
    exact ho
theorem fit_dm {L : Nat} (hc : Ls cs) {l : List (List Nat)} (h : ∀ m ∈ l, Tx cs L m) : fit (.lst (l.map dm)) = true := by
  obtain ⟨h1, h2⟩ := pure_dm hc h
  exact fit_l h1 (by omega)
theorem pure_dN (hc : Ls cs) : ∀ {l : List Nt}, (∀ n ∈ l, Tx cs 20 n.1) → pureL (l.map dN) = true ∧ depthL (l.map dN) ≤ 2 ∧ noRefL (l.map dN) = true
  | [], _ => ⟨rfl, Nat.zero_le _, rfl⟩
  | a :: l, h => by
    obtain ⟨h1, h2, h3⟩ := pure_dN hc fun m hm => h m (List.mem_cons_of_mem _ hm)
    have ho := ((h a List.mem_cons_self).okx hc).ok
    have p1 : pureB (dN a) = true := by
      unfold dN pureB pureL dm pureB
      rw [ho]
      rfl
    have d1 : depth (dN a) = 2 := rfl
    rw [List.map_cons]
    unfold pureL depthL
    rw [h1, p1, d1]
    refine ⟨rfl, by omega, ?_⟩
    unfold noRefL
    rw [h3, noRef_pure p1]
    rfl
theorem fit_dN (hc : Ls cs) {l : List Nt} (h : ∀ n ∈ l, Tx cs 20 n.1) : fit (.lst (l.map dN)) = true := by
  obtain ⟨h1, h2, h3⟩ := pure_dN hc h
  exact fit_l h1 (by omega)
/-- asked, as a call -/
def Asks (Γ : Calls) (cs : List Nat) (most : Nat) : Prop := ∀ S, Sat (Γ 6 [.str (sx cs), .int (most : Nat)] S) (fun d S' => d = .ref S.length ∧ S' = S ++ [.lst ((bl cs (2 * most)).map dm)]) (fun _ _ _ => False)
theorem bl_tx {most : Nat} (hm : most ≤ 8) : ∀ m ∈ bl cs (2 * most), Tx cs 20 m := fun m h => ⟨by have := (bl_mem h).1; omega, (bl_mem h).2⟩
theorem perm10 {a b : D} : perm [1, 0] ([] ++ [a, b]) = [b, a] := rfl
theorem perm120 {a b c : D} : perm [1, 2, 0] ([] ++ [a, b, c]) = [b, c, a] := rfl
/-- _law_listed -/
theorem listed_ok {N p most : Nat} (tk : TkC Γ 9) (h6 : Asks Γ cs most) (hc : Ls cs) (hP : PotC N S p) (hN : N + 1 ≤ 1000000) (hm : most ≤ 8) (hb : (bl cs (2 * most)).length ≤ 20000) :
    Sat (runBody (d16 Γ) 6 [.ref p, .str (sx cs), .int (most : Nat), .lst ((bl cs (2 * most)).map dm)] S) (fun d S' => d = .bl true ∧ PotC (N + 1) S' p ∧ Fx S S' p) (fun _ _ _ => False) := by
  have hp := hP.lt
  have hB := bl_tx (cs := cs) hm
  have hfit := fit_dm hc hB
  have hpu := (pure_dm hc hB).1
  generalize hBe : bl cs (2 * most) = B at *
  have h6' : ∀ S, Sat (Γ 6 [.str (sx cs), .int (most : Nat)] S) (fun d S' => d = .ref S.length ∧ S' = S ++ [.lst (B.map dm)]) (fun _ _ _ => False) := fun S => by rw [← hBe]; exact h6 S
  have e0 : ∀ U : Store, oNe (.lst []) (.lst []) U = .ok (.bl false) U := fun U => ne_look (look_no rfl) (look_no rfl) rfl rfl
  unfold d16
  rw [Sat_body]; simp -implicitDefEqProofs only [List.map_cons, List.map_nil, List.length_cons, List.length_nil, List.replicate, List.cons_append, List.nil_append]
  try simp -implicitDefEqProofs only [Sat_ok, Sat_err, Sat_bad, Sat_bind, W_var, W_vars, W_c, W_nil, W_cons, W_tup, W_lst, W_new, W_bin, W_un, W_fn, W_dfn, W_call, W_callP, W_if, W_isi, W_val, W_setI, W_app, W_pop, W_popAt, W_ins, W_augI, andK_b, orK_b, W_and, W_or, notK_b, W_not, boolK_b, W_tval, W_tnot, W_tand, W_tor, W_tyes, W_mul, W_mod, W_fdiv, W_pow, W_idxT, W_idxL, Sx_next, Sx_seq, Sx_pass, Sx_expr, Sx_set, Sx_ret, Sx_retN, Sx_brk, Sx_cont, Sx_raise, Sx_if, Sx_par, Sx_par3, Sx_asg, Sx_for, outK_ret, outK_err, outK_brk, outK_cont, loopK_ret, loopK_err, loopK_brk, loopK_cont, W_rng1, rngK_i, W_rng2, rngK2_i, W_seq, seqK_t, seqK_l, W_enumA, enumK_t, enumK_l, W_zip2, oCat_i, oSub_i, oNeg_i, oLt_i, oLe_i, oGt_i, oGe_i, oInt_i, oAbs_i, oMax2_i, oMin2_i, oGcd_i, oIsN_ap, oNotN_ap, oEq_i, oNe_i, oNe_b, oEq_b, gTup_ap, gAll_cons, gNm_ap, gAll_nil, List.set, decide_eq_true_eq, decide_eq_false_iff_not, if_true, if_false, Bool.not_eq_true, Bool.not_eq_true', Bool.false_eq_true, true_and, and_true, Option.some.injEq, exists_eq_left', exists_eq_left, beq_iff_eq, beq_eq_false_iff_ne, optR_some, R.bind, W_lc, atI_c0, atI_c1, atI_c2, Sx_try, tryK_ret, tryK_brk, tryK_cont, offK_ret, offK_brk, offK_cont, Bool.not_true, Bool.not_false, Bool.true_eq_false, not_true_eq_false, not_false_eq_true, true_implies, false_implies, implies_true, Bool.or_false, Bool.or_true, Bool.and_true, Bool.and_false, Bool.true_and, Bool.false_and, Bool.true_or, Bool.false_or, W_str1, strK_s, W_dstr1, strKF_s, st_starts, W_seqS, seqSK_s, W_sl, W_oPart, W_oNo, partK_i, decide_true, decide_false, in_sgn]
  refine Sat_use0 (tk hP (by decide) (by decide) (by omega)) ?_
  rintro _ S1 ⟨v, rfl, v0, v1, P1, F1⟩
  try simp -implicitDefEqProofs only [Sat_ok, Sat_err, Sat_bad, Sat_bind, W_var, W_vars, W_c, W_nil, W_cons, W_tup, W_lst, W_new, W_bin, W_un, W_fn, W_dfn, W_call, W_callP, W_if, W_isi, W_val, W_setI, W_app, W_pop, W_popAt, W_ins, W_augI, andK_b, orK_b, W_and, W_or, notK_b, W_not, boolK_b, W_tval, W_tnot, W_tand, W_tor, W_tyes, W_mul, W_mod, W_fdiv, W_pow, W_idxT, W_idxL, Sx_next, Sx_seq, Sx_pass, Sx_expr, Sx_set, Sx_ret, Sx_retN, Sx_brk, Sx_cont, Sx_raise, Sx_if, Sx_par, Sx_par3, Sx_asg, Sx_for, outK_ret, outK_err, outK_brk, outK_cont, loopK_ret, loopK_err, loopK_brk, loopK_cont, W_rng1, rngK_i, W_rng2, rngK2_i, W_seq, seqK_t, seqK_l, W_enumA, enumK_t, enumK_l, W_zip2, oCat_i, oSub_i, oNeg_i, oLt_i, oLe_i, oGt_i, oGe_i, oInt_i, oAbs_i, oMax2_i, oMin2_i, oGcd_i, oIsN_ap, oNotN_ap, oEq_i, oNe_i, oNe_b, oEq_b, gTup_ap, gAll_cons, gNm_ap, gAll_nil, List.set, decide_eq_true_eq, decide_eq_false_iff_not, if_true, if_false, Bool.not_eq_true, Bool.not_eq_true', Bool.false_eq_true, true_and, and_true, Option.some.injEq, exists_eq_left', exists_eq_left, beq_iff_eq, beq_eq_false_iff_ne, optR_some, R.bind, W_lc, atI_c0, atI_c1, atI_c2, Sx_try, tryK_ret, tryK_brk, tryK_cont, offK_ret, offK_brk, offK_cont, Bool.not_true, Bool.not_false, Bool.true_eq_false, not_true_eq_false, not_false_eq_true, true_implies, false_implies, implies_true, Bool.or_false, Bool.or_true, Bool.and_true, Bool.and_false, Bool.true_and, Bool.false_and, Bool.true_or, Bool.false_or, W_str1, strK_s, W_dstr1, strKF_s, st_starts, W_seqS, seqSK_s, W_sl, W_oPart, W_oNo, partK_i, decide_true, decide_false, in_sgn]
  refine Sat_use0 (Q := fun d S' => d = .ref S1.length ∧ S' = S1 ++ [.lst (B.map dm)]) ?_ ?_
  · by_cases hv : v = 0
    · rw [if_pos hv]; exact h6' S1
    · rw [if_neg hv]; exact h6' S1
  rintro _ _ ⟨rfl, rfl⟩
  have hg : (S1 ++ [O.lst (B.map dm)])[S1.length]? = some (.lst (B.map dm)) := new_at
  have hP2 : PotC (N + 1) (S1 ++ [O.lst (B.map dm)]) p := P1.app
  have hF2 : Fx S (S1 ++ [O.lst (B.map dm)]) p := (Fx.of F1).trans Fx.app
  have hpl : p < S1.length := P1.lt
  have hSl := F1.1
  generalize S1 ++ [O.lst (B.map dm)] = U at *
  generalize S1.length = q at *
  have ek : kdOf anc (.ref q) U = some (.ty .list) := by
    show (match U[q]? with | some (.lst _) => some (Kd.ty .list) | _ => none) = _
    rw [hg]
  have es : seqK (.ref q) U = .ok (wkR q, (B.map dm).length) U := by
    show (match U[q]? with | some (.lst xs) => Py.R.ok (wkR q, xs.length) _ | _ => .bad) = _
    rw [hg]
  have ek2 : ([Cl.ty .list].any (isK anc (.ty .list))) = true := by decide
  have e1 : oNe (.ref q) (.lst (B.map dm)) U = .ok (.bl false) U := by
    rw [ne_look (look_r hg no_dm) (look_no (by unfold noRef; exact no_dm)) hfit hfit, eqB_self (by unfold pureB; exact hpu)]
    rfl
  simp -implicitDefEqProofs only [Sat_ok, Sat_err, Sat_bad, Sat_bind, Sat_ite, W_var, W_vars, W_c, W_nil, W_cons, W_tup, W_lst, W_new, W_bin, W_un, W_fn, W_dfn, W_call, W_callP, W_if, W_isi, W_val, W_setI, W_app, W_pop, W_popAt, W_ins, W_augI, andK_b, orK_b, W_and, W_or, notK_b, W_not, boolK_b, W_tval, W_tnot, W_tand, W_tor, W_tyes, W_mul, W_mod, W_fdiv, W_pow, W_idxT, W_idxL, Sx_next, Sx_seq, Sx_pass, Sx_expr, Sx_set, Sx_ret, Sx_retN, Sx_brk, Sx_cont, Sx_raise, Sx_if, Sx_ite, Sx_par, Sx_par3, Sx_asg, Sx_for, outK_ret, outK_err, outK_brk, outK_cont, loopK_ret, loopK_err, loopK_brk, loopK_cont, W_rng1, rngK_i, W_rng2, rngK2_i, W_seq, seqK_t, seqK_l, W_enumA, enumK_t, enumK_l, W_zip2, oCat_i, oSub_i, oNeg_i, oLt_i, oLe_i, oGt_i, oGe_i, oInt_i, oAbs_i, oMax2_i, oMin2_i, oGcd_i, oIsN_ap, oNotN_ap, oEq_i, oNe_i, oNe_b, oEq_b, gTup_ap, gAll_cons, gNm_ap, gAll_nil, List.set, decide_eq_true_eq, decide_eq_false_iff_not, if_true, if_false, Bool.not_eq_true, Bool.not_eq_true', Bool.false_eq_true, true_and, and_true, Option.some.injEq, exists_eq_left', exists_eq_left, beq_iff_eq, beq_eq_false_iff_ne, optR_some, R.bind, W_lc, atI_c0, atI_c1, atI_c2, Sx_try, tryK_ret, tryK_brk, tryK_cont, offK_ret, offK_brk, offK_cont, Bool.not_true, Bool.not_false, Bool.true_eq_false, not_true_eq_false, not_false_eq_true, true_implies, false_implies, implies_true, Bool.or_false, Bool.or_true, Bool.and_true, Bool.and_false, Bool.true_and, Bool.false_and, Bool.true_or, Bool.false_or, W_str1, strK_s, W_dstr1, strKF_s, st_starts, W_seqS, seqSK_s, W_sl, W_oPart, W_oNo, partK_i, decide_true, decide_false, in_sgn, ek, ek2, es]
  refine Sat_lcFR (fun _ => false) (fun d => d) hg ?_ (fun x hx => noRefL_iff.mp no_dm x hx) (by rw [List.length_map, slz]; omega) ?_
  · intro x hx S'
    obtain ⟨m, _, rfl⟩ := List.mem_map.mp hx
    exact ⟨_, rfl, rfl, fun h => by cases h⟩
  · have ef : ((B.map dm).filter (fun _ => false)).map (fun d => d) = [] := by simp
    rw [ef]
    simp -implicitDefEqProofs only [Sat_ok, Sat_err, Sat_bad, Sat_bind, Sat_ite, W_var, W_vars, W_c, W_nil, W_cons, W_tup, W_lst, W_new, W_bin, W_un, W_fn, W_dfn, W_call, W_callP, W_if, W_isi, W_val, W_setI, W_app, W_pop, W_popAt, W_ins, W_augI, andK_b, orK_b, W_and, W_or, notK_b, W_not, boolK_b, W_tval, W_tnot, W_tand, W_tor, W_tyes, W_mul, W_mod, W_fdiv, W_pow, W_idxT, W_idxL, Sx_next, Sx_seq, Sx_pass, Sx_expr, Sx_set, Sx_ret, Sx_retN, Sx_brk, Sx_cont, Sx_raise, Sx_if, Sx_ite, Sx_par, Sx_par3, Sx_asg, Sx_for, outK_ret, outK_err, outK_brk, outK_cont, loopK_ret, loopK_err, loopK_brk, loopK_cont, W_rng1, rngK_i, W_rng2, rngK2_i, W_seq, seqK_t, seqK_l, W_enumA, enumK_t, enumK_l, W_zip2, oCat_i, oSub_i, oNeg_i, oLt_i, oLe_i, oGt_i, oGe_i, oInt_i, oAbs_i, oMax2_i, oMin2_i, oGcd_i, oIsN_ap, oNotN_ap, oEq_i, oNe_i, oNe_b, oEq_b, gTup_ap, gAll_cons, gNm_ap, gAll_nil, List.set, decide_eq_true_eq, decide_eq_false_iff_not, if_true, if_false, Bool.not_eq_true, Bool.not_eq_true', Bool.false_eq_true, true_and, and_true, Option.some.injEq, exists_eq_left', exists_eq_left, beq_iff_eq, beq_eq_false_iff_ne, optR_some, R.bind, W_lc, atI_c0, atI_c1, atI_c2, Sx_try, tryK_ret, tryK_brk, tryK_cont, offK_ret, offK_brk, offK_cont, Bool.not_true, Bool.not_false, Bool.true_eq_false, not_true_eq_false, not_false_eq_true, true_implies, false_implies, implies_true, Bool.or_false, Bool.or_true, Bool.and_true, Bool.and_false, Bool.true_and, Bool.false_and, Bool.true_or, Bool.false_or, W_str1, strK_s, W_dstr1, strKF_s, st_starts, W_seqS, seqSK_s, W_sl, W_oPart, W_oNo, partK_i, decide_true, decide_false, in_sgn, e0, e1, W_revS]
    rw [chg_at hg (ys := (B.map dm).reverse) (r := .non) rfl]
    simp -implicitDefEqProofs only [Sat_ok, Sat_err, Sat_bad, Sat_bind, Sat_ite, W_var, W_vars, W_c, W_nil, W_cons, W_tup, W_lst, W_new, W_bin, W_un, W_fn, W_dfn, W_call, W_callP, W_if, W_isi, W_val, W_setI, W_app, W_pop, W_popAt, W_ins, W_augI, andK_b, orK_b, W_and, W_or, notK_b, W_not, boolK_b, W_tval, W_tnot, W_tand, W_tor, W_tyes, W_mul, W_mod, W_fdiv, W_pow, W_idxT, W_idxL, Sx_next, Sx_seq, Sx_pass, Sx_expr, Sx_set, Sx_ret, Sx_retN, Sx_brk, Sx_cont, Sx_raise, Sx_if, Sx_ite, Sx_par, Sx_par3, Sx_asg, Sx_for, outK_ret, outK_err, outK_brk, outK_cont, loopK_ret, loopK_err, loopK_brk, loopK_cont, W_rng1, rngK_i, W_rng2, rngK2_i, W_seq, seqK_t, seqK_l, W_enumA, enumK_t, enumK_l, W_zip2, oCat_i, oSub_i, oNeg_i, oLt_i, oLe_i, oGt_i, oGe_i, oInt_i, oAbs_i, oMax2_i, oMin2_i, oGcd_i, oIsN_ap, oNotN_ap, oEq_i, oNe_i, oNe_b, oEq_b, gTup_ap, gAll_cons, gNm_ap, gAll_nil, List.set, decide_eq_true_eq, decide_eq_false_iff_not, if_true, if_false, Bool.not_eq_true, Bool.not_eq_true', Bool.false_eq_true, true_and, and_true, Option.some.injEq, exists_eq_left', exists_eq_left, beq_iff_eq, beq_eq_false_iff_ne, optR_some, R.bind, W_lc, atI_c0, atI_c1, atI_c2, Sx_try, tryK_ret, tryK_brk, tryK_cont, offK_ret, offK_brk, offK_cont, Bool.not_true, Bool.not_false, Bool.true_eq_false, not_true_eq_false, not_false_eq_true, true_implies, false_implies, implies_true, Bool.or_false, Bool.or_true, Bool.and_true, Bool.and_false, Bool.true_and, Bool.false_and, Bool.true_or, Bool.false_or, W_str1, strK_s, W_dstr1, strKF_s, st_starts, W_seqS, seqSK_s, W_sl, W_oPart, W_oNo, partK_i, decide_true, decide_false, in_sgn, W_rcv]
    have hg3 : (U.set q (.lst (B.map dm).reverse))[q]? = some (.lst (B.map dm).reverse) := List.getElem?_set_self (lt_of_get hg)
    rw [rcv_ok hg3]
    try simp -implicitDefEqProofs only [Sat_ok, Sat_err, Sat_bad, Sat_bind, Sat_ite, W_var, W_vars, W_c, W_nil, W_cons, W_tup, W_lst, W_new, W_bin, W_un, W_fn, W_dfn, W_call, W_callP, W_if, W_isi, W_val, W_setI, W_app, W_pop, W_popAt, W_ins, W_augI, andK_b, orK_b, W_and, W_or, notK_b, W_not, boolK_b, W_tval, W_tnot, W_tand, W_tor, W_tyes, W_mul, W_mod, W_fdiv, W_pow, W_idxT, W_idxL, Sx_next, Sx_seq, Sx_pass, Sx_expr, Sx_set, Sx_ret, Sx_retN, Sx_brk, Sx_cont, Sx_raise, Sx_if, Sx_ite, Sx_par, Sx_par3, Sx_asg, Sx_for, outK_ret, outK_err, outK_brk, outK_cont, loopK_ret, loopK_err, loopK_brk, loopK_cont, W_rng1, rngK_i, W_rng2, rngK2_i, W_seq, seqK_t, seqK_l, W_enumA, enumK_t, enumK_l, W_zip2, oCat_i, oSub_i, oNeg_i, oLt_i, oLe_i, oGt_i, oGe_i, oInt_i, oAbs_i, oMax2_i, oMin2_i, oGcd_i, oIsN_ap, oNotN_ap, oEq_i, oNe_i, oNe_b, oEq_b, gTup_ap, gAll_cons, gNm_ap, gAll_nil, List.set, decide_eq_true_eq, decide_eq_false_iff_not, if_true, if_false, Bool.not_eq_true, Bool.not_eq_true', Bool.false_eq_true, true_and, and_true, Option.some.injEq, exists_eq_left', exists_eq_left, beq_iff_eq, beq_eq_false_iff_ne, optR_some, R.bind, W_lc, atI_c0, atI_c1, atI_c2, Sx_try, tryK_ret, tryK_brk, tryK_cont, offK_ret, offK_brk, offK_cont, Bool.not_true, Bool.not_false, Bool.true_eq_false, not_true_eq_false, not_false_eq_true, true_implies, false_implies, implies_true, Bool.or_false, Bool.or_true, Bool.and_true, Bool.and_false, Bool.true_and, Bool.false_and, Bool.true_or, Bool.false_or, W_str1, strK_s, W_dstr1, strKF_s, st_starts, W_seqS, seqSK_s, W_sl, W_oPart, W_oNo, partK_i, decide_true, decide_false, in_sgn]
    rw [app_ok hg3 (by rw [List.length_reverse, List.length_map]; omega)]
    try simp -implicitDefEqProofs only [Sat_ok, Sat_err, Sat_bad, Sat_bind, Sat_ite, W_var, W_vars, W_c, W_nil, W_cons, W_tup, W_lst, W_new, W_bin, W_un, W_fn, W_dfn, W_call, W_callP, W_if, W_isi, W_val, W_setI, W_app, W_pop, W_popAt, W_ins, W_augI, andK_b, orK_b, W_and, W_or, notK_b, W_not, boolK_b, W_tval, W_tnot, W_tand, W_tor, W_tyes, W_mul, W_mod, W_fdiv, W_pow, W_idxT, W_idxL, Sx_next, Sx_seq, Sx_pass, Sx_expr, Sx_set, Sx_ret, Sx_retN, Sx_brk, Sx_cont, Sx_raise, Sx_if, Sx_ite, Sx_par, Sx_par3, Sx_asg, Sx_for, outK_ret, outK_err, outK_brk, outK_cont, loopK_ret, loopK_err, loopK_brk, loopK_cont, W_rng1, rngK_i, W_rng2, rngK2_i, W_seq, seqK_t, seqK_l, W_enumA, enumK_t, enumK_l, W_zip2, oCat_i, oSub_i, oNeg_i, oLt_i, oLe_i, oGt_i, oGe_i, oInt_i, oAbs_i, oMax2_i, oMin2_i, oGcd_i, oIsN_ap, oNotN_ap, oEq_i, oNe_i, oNe_b, oEq_b, gTup_ap, gAll_cons, gNm_ap, gAll_nil, List.set, decide_eq_true_eq, decide_eq_false_iff_not, if_true, if_false, Bool.not_eq_true, Bool.not_eq_true', Bool.false_eq_true, true_and, and_true, Option.some.injEq, exists_eq_left', exists_eq_left, beq_iff_eq, beq_eq_false_iff_ne, optR_some, R.bind, W_lc, atI_c0, atI_c1, atI_c2, Sx_try, tryK_ret, tryK_brk, tryK_cont, offK_ret, offK_brk, offK_cont, Bool.not_true, Bool.not_false, Bool.true_eq_false, not_true_eq_false, not_false_eq_true, true_implies, false_implies, implies_true, Bool.or_false, Bool.or_true, Bool.and_true, Bool.and_false, Bool.true_and, Bool.false_and, Bool.true_or, Bool.false_or, W_str1, strK_s, W_dstr1, strKF_s, st_starts, W_seqS, seqSK_s, W_sl, W_oPart, W_oNo, partK_i, decide_true, decide_false, in_sgn]
    have P4 : PotC (N + 1) ((U.set q (.lst (B.map dm).reverse)).set q (.lst ((B.map dm).reverse ++ [.str (PySem.Str.ofString "zz")]))) p := (hP2.same (List.getElem?_set_ne (by omega))).same (List.getElem?_set_ne (by omega))
    have F4 : Fx S ((U.set q (.lst (B.map dm).reverse)).set q (.lst ((B.map dm).reverse ++ [.str (PySem.Str.ofString "zz")]))) p := (hF2.setN (by omega)).setN (by omega)
    generalize (U.set q (.lst (B.map dm).reverse)).set q (.lst ((B.map dm).reverse ++ [.str (PySem.Str.ofString "zz")])) = U4 at *
    refine Sat_use0 (h6' U4) ?_
    rintro _ _ ⟨rfl, rfl⟩
    rw [eq_look (look_r new_at no_dm) (look_no (by unfold noRef; exact no_dm)) hfit hfit, eqB_self (by unfold pureB; exact hpu)]
    exact ⟨rfl, P4.app, F4.trans Fx.app⟩
/-- _law_next -/
theorem lawnext_ok {most : Nat} {ns : List Nt} {b : Bool} (hc : Ls cs) (hG : Gd cs ns) (h7 : ∀ (S : Store) (q : Nat), S[q]? = some (.lst (ns.map dN)) → Γ 7 [.str (sx cs), .int (most : Nat), .ref q] S = .ok (fstN (bl cs (2 * most)) (ns.map (·.1))) S) :
    Sat (runBody (d17 Γ) 7 [.str (sx cs), .int (most : Nat), .lst (ns.map dN), .bl b] S) (fun d S' => d = fstN (bl cs (2 * most)) (ns.map (·.1)) ∧ Pre S S') (fun _ _ _ => False) := by
  have hT : ∀ n ∈ ns, Tx cs 20 n.1 := fun n hn => (hG.ok n hn).1
  obtain ⟨hpu, _, hno⟩ := pure_dN hc hT
  have hfit := fit_dN hc hT
  have hg : (S ++ [O.lst (ns.map dN)])[S.length]? = some (.lst (ns.map dN)) := new_at
  have e7 := h7 _ _ hg
  have hP : Pre S (S ++ [O.lst (ns.map dN)]) := Pre.app
  unfold d17
  rw [Sat_body]; simp -implicitDefEqProofs only [List.map_cons, List.map_nil, List.length_cons, List.length_nil, List.replicate, List.cons_append, List.nil_append]
  simp -implicitDefEqProofs only [Sat_ok, Sat_err, Sat_bad, Sat_bind, Sat_ite, W_var, W_vars, W_c, W_nil, W_cons, W_tup, W_lst, W_new, W_bin, W_un, W_fn, W_dfn, W_call, W_callP, W_if, W_isi, W_val, W_setI, W_app, W_pop, W_popAt, W_ins, W_augI, andK_b, orK_b, W_and, W_or, notK_b, W_not, boolK_b, W_tval, W_tnot, W_tand, W_tor, W_tyes, W_mul, W_mod, W_fdiv, W_pow, W_idxT, W_idxL, Sx_next, Sx_seq, Sx_pass, Sx_expr, Sx_set, Sx_ret, Sx_retN, Sx_brk, Sx_cont, Sx_raise, Sx_if, Sx_ite, Sx_par, Sx_par3, Sx_asg, Sx_for, outK_ret, outK_err, outK_brk, outK_cont, loopK_ret, loopK_err, loopK_brk, loopK_cont, W_rng1, rngK_i, W_rng2, rngK2_i, W_seq, seqK_t, seqK_l, W_enumA, enumK_t, enumK_l, W_zip2, oCat_i, oSub_i, oNeg_i, oLt_i, oLe_i, oGt_i, oGe_i, oInt_i, oAbs_i, oMax2_i, oMin2_i, oGcd_i, oIsN_ap, oNotN_ap, oEq_i, oNe_i, oNe_b, oEq_b, gTup_ap, gAll_cons, gNm_ap, gAll_nil, List.set, decide_eq_true_eq, decide_eq_false_iff_not, if_true, if_false, Bool.not_eq_true, Bool.not_eq_true', Bool.false_eq_true, true_and, and_true, Option.some.injEq, exists_eq_left', exists_eq_left, beq_iff_eq, beq_eq_false_iff_ne, optR_some, R.bind, W_lc, atI_c0, atI_c1, atI_c2, Sx_try, tryK_ret, tryK_brk, tryK_cont, offK_ret, offK_brk, offK_cont, Bool.not_true, Bool.not_false, Bool.true_eq_false, not_true_eq_false, not_false_eq_true, true_implies, false_implies, implies_true, Bool.or_false, Bool.or_true, Bool.and_true, Bool.and_false, Bool.true_and, Bool.false_and, Bool.true_or, Bool.false_or, W_str1, strK_s, W_dstr1, strKF_s, st_starts, W_seqS, seqSK_s, W_sl, W_oPart, W_oNo, partK_i, decide_true, decide_false, in_sgn, list_ok asSq_l]
  generalize S ++ [O.lst (ns.map dN)] = U at *
  have e1 : oEq (.ref S.length) (.lst (ns.map dN)) U = .ok (.bl true) U := by
    rw [eq_look (look_r hg hno) (look_no (by unfold noRef; exact hno)) hfit hfit, eqB_self (by unfold pureB; exact hpu)]
  refine ⟨fun hb => ?_, fun hb => ?_⟩
  · simp -implicitDefEqProofs only [Sat_ok, Sat_err, Sat_bad, Sat_bind, Sat_ite, W_var, W_vars, W_c, W_nil, W_cons, W_tup, W_lst, W_new, W_bin, W_un, W_fn, W_dfn, W_call, W_callP, W_if, W_isi, W_val, W_setI, W_app, W_pop, W_popAt, W_ins, W_augI, andK_b, orK_b, W_and, W_or, notK_b, W_not, boolK_b, W_tval, W_tnot, W_tand, W_tor, W_tyes, W_mul, W_mod, W_fdiv, W_pow, W_idxT, W_idxL, Sx_next, Sx_seq, Sx_pass, Sx_expr, Sx_set, Sx_ret, Sx_retN, Sx_brk, Sx_cont, Sx_raise, Sx_if, Sx_ite, Sx_par, Sx_par3, Sx_asg, Sx_for, outK_ret, outK_err, outK_brk, outK_cont, loopK_ret, loopK_err, loopK_brk, loopK_cont, W_rng1, rngK_i, W_rng2, rngK2_i, W_seq, seqK_t, seqK_l, W_enumA, enumK_t, enumK_l, W_zip2, oCat_i, oSub_i, oNeg_i, oLt_i, oLe_i, oGt_i, oGe_i, oInt_i, oAbs_i, oMax2_i, oMin2_i, oGcd_i, oIsN_ap, oNotN_ap, oEq_i, oNe_i, oNe_b, oEq_b, gTup_ap, gAll_cons, gNm_ap, gAll_nil, List.set, decide_eq_true_eq, decide_eq_false_iff_not, if_true, if_false, Bool.not_eq_true, Bool.not_eq_true', Bool.false_eq_true, true_and, and_true, Option.some.injEq, exists_eq_left', exists_eq_left, beq_iff_eq, beq_eq_false_iff_ne, optR_some, R.bind, W_lc, atI_c0, atI_c1, atI_c2, Sx_try, tryK_ret, tryK_brk, tryK_cont, offK_ret, offK_brk, offK_cont, Bool.not_true, Bool.not_false, Bool.true_eq_false, not_true_eq_false, not_false_eq_true, true_implies, false_implies, implies_true, Bool.or_false, Bool.or_true, Bool.and_true, Bool.and_false, Bool.true_and, Bool.false_and, Bool.true_or, Bool.false_or, W_str1, strK_s, W_dstr1, strKF_s, st_starts, W_seqS, seqSK_s, W_sl, W_oPart, W_oNo, partK_i, decide_true, decide_false, in_sgn, perm120, e7, e1, W_clr]
    rw [chg_at hg (ys := []) (r := .non) rfl]
    try simp -implicitDefEqProofs only [Sat_ok, Sat_err, Sat_bad, Sat_bind, Sat_ite, W_var, W_vars, W_c, W_nil, W_cons, W_tup, W_lst, W_new, W_bin, W_un, W_fn, W_dfn, W_call, W_callP, W_if, W_isi, W_val, W_setI, W_app, W_pop, W_popAt, W_ins, W_augI, andK_b, orK_b, W_and, W_or, notK_b, W_not, boolK_b, W_tval, W_tnot, W_tand, W_tor, W_tyes, W_mul, W_mod, W_fdiv, W_pow, W_idxT, W_idxL, Sx_next, Sx_seq, Sx_pass, Sx_expr, Sx_set, Sx_ret, Sx_retN, Sx_brk, Sx_cont, Sx_raise, Sx_if, Sx_ite, Sx_par, Sx_par3, Sx_asg, Sx_for, outK_ret, outK_err, outK_brk, outK_cont, loopK_ret, loopK_err, loopK_brk, loopK_cont, W_rng1, rngK_i, W_rng2, rngK2_i, W_seq, seqK_t, seqK_l, W_enumA, enumK_t, enumK_l, W_zip2, oCat_i, oSub_i, oNeg_i, oLt_i, oLe_i, oGt_i, oGe_i, oInt_i, oAbs_i, oMax2_i, oMin2_i, oGcd_i, oIsN_ap, oNotN_ap, oEq_i, oNe_i, oNe_b, oEq_b, gTup_ap, gAll_cons, gNm_ap, gAll_nil, List.set, decide_eq_true_eq, decide_eq_false_iff_not, if_true, if_false, Bool.not_eq_true, Bool.not_eq_true', Bool.false_eq_true, true_and, and_true, Option.some.injEq, exists_eq_left', exists_eq_left, beq_iff_eq, beq_eq_false_iff_ne, optR_some, R.bind, W_lc, atI_c0, atI_c1, atI_c2, Sx_try, tryK_ret, tryK_brk, tryK_cont, offK_ret, offK_brk, offK_cont, Bool.not_true, Bool.not_false, Bool.true_eq_false, not_true_eq_false, not_false_eq_true, true_implies, false_implies, implies_true, Bool.or_false, Bool.or_true, Bool.and_true, Bool.and_false, Bool.true_and, Bool.false_and, Bool.true_or, Bool.false_or, W_str1, strK_s, W_dstr1, strKF_s, st_starts, W_seqS, seqSK_s, W_sl, W_oPart, W_oNo, partK_i, decide_true, decide_false, in_sgn]
    exact hP.set (Nat.le_refl _)
  · simp -implicitDefEqProofs only [Sat_ok, Sat_err, Sat_bad, Sat_bind, Sat_ite, W_var, W_vars, W_c, W_nil, W_cons, W_tup, W_lst, W_new, W_bin, W_un, W_fn, W_dfn, W_call, W_callP, W_if, W_isi, W_val, W_setI, W_app, W_pop, W_popAt, W_ins, W_augI, andK_b, orK_b, W_and, W_or, notK_b, W_not, boolK_b, W_tval, W_tnot, W_tand, W_tor, W_tyes, W_mul, W_mod, W_fdiv, W_pow, W_idxT, W_idxL, Sx_next, Sx_seq, Sx_pass, Sx_expr, Sx_set, Sx_ret, Sx_retN, Sx_brk, Sx_cont, Sx_raise, Sx_if, Sx_ite, Sx_par, Sx_par3, Sx_asg, Sx_for, outK_ret, outK_err, outK_brk, outK_cont, loopK_ret, loopK_err, loopK_brk, loopK_cont, W_rng1, rngK_i, W_rng2, rngK2_i, W_seq, seqK_t, seqK_l, W_enumA, enumK_t, enumK_l, W_zip2, oCat_i, oSub_i, oNeg_i, oLt_i, oLe_i, oGt_i, oGe_i, oInt_i, oAbs_i, oMax2_i, oMin2_i, oGcd_i, oIsN_ap, oNotN_ap, oEq_i, oNe_i, oNe_b, oEq_b, gTup_ap, gAll_cons, gNm_ap, gAll_nil, List.set, decide_eq_true_eq, decide_eq_false_iff_not, if_true, if_false, Bool.not_eq_true, Bool.not_eq_true', Bool.false_eq_true, true_and, and_true, Option.some.injEq, exists_eq_left', exists_eq_left, beq_iff_eq, beq_eq_false_iff_ne, optR_some, R.bind, W_lc, atI_c0, atI_c1, atI_c2, Sx_try, tryK_ret, tryK_brk, tryK_cont, offK_ret, offK_brk, offK_cont, Bool.not_true, Bool.not_false, Bool.true_eq_false, not_true_eq_false, not_false_eq_true, true_implies, false_implies, implies_true, Bool.or_false, Bool.or_true, Bool.and_true, Bool.and_false, Bool.true_and, Bool.false_and, Bool.true_or, Bool.false_or, W_str1, strK_s, W_dstr1, strKF_s, st_starts, W_seqS, seqSK_s, W_sl, W_oPart, W_oNo, partK_i, decide_true, decide_false, in_sgn, e7, e1, W_clr]
    rw [chg_at hg (ys := []) (r := .non) rfl]
    try simp -implicitDefEqProofs only [Sat_ok, Sat_err, Sat_bad, Sat_bind, Sat_ite, W_var, W_vars, W_c, W_nil, W_cons, W_tup, W_lst, W_new, W_bin, W_un, W_fn, W_dfn, W_call, W_callP, W_if, W_isi, W_val, W_setI, W_app, W_pop, W_popAt, W_ins, W_augI, andK_b, orK_b, W_and, W_or, notK_b, W_not, boolK_b, W_tval, W_tnot, W_tand, W_tor, W_tyes, W_mul, W_mod, W_fdiv, W_pow, W_idxT, W_idxL, Sx_next, Sx_seq, Sx_pass, Sx_expr, Sx_set, Sx_ret, Sx_retN, Sx_brk, Sx_cont, Sx_raise, Sx_if, Sx_ite, Sx_par, Sx_par3, Sx_asg, Sx_for, outK_ret, outK_err, outK_brk, outK_cont, loopK_ret, loopK_err, loopK_brk, loopK_cont, W_rng1, rngK_i, W_rng2, rngK2_i, W_seq, seqK_t, seqK_l, W_enumA, enumK_t, enumK_l, W_zip2, oCat_i, oSub_i, oNeg_i, oLt_i, oLe_i, oGt_i, oGe_i, oInt_i, oAbs_i, oMax2_i, oMin2_i, oGcd_i, oIsN_ap, oNotN_ap, oEq_i, oNe_i, oNe_b, oEq_b, gTup_ap, gAll_cons, gNm_ap, gAll_nil, List.set, decide_eq_true_eq, decide_eq_false_iff_not, if_true, if_false, Bool.not_eq_true, Bool.not_eq_true', Bool.false_eq_true, true_and, and_true, Option.some.injEq, exists_eq_left', exists_eq_left, beq_iff_eq, beq_eq_false_iff_ne, optR_some, R.bind, W_lc, atI_c0, atI_c1, atI_c2, Sx_try, tryK_ret, tryK_brk, tryK_cont, offK_ret, offK_brk, offK_cont, Bool.not_true, Bool.not_false, Bool.true_eq_false, not_true_eq_false, not_false_eq_true, true_implies, false_implies, implies_true, Bool.or_false, Bool.or_true, Bool.and_true, Bool.and_false, Bool.true_and, Bool.false_and, Bool.true_or, Bool.false_or, W_str1, strK_s, W_dstr1, strKF_s, st_starts, W_seqS, seqSK_s, W_sl, W_oPart, W_oNo, partK_i, decide_true, decide_false, in_sgn]
    exact hP.set (Nat.le_refl _)
end K73

set_option maxHeartbeats 4000000
namespace K73
open Py
open PySem (Str sizeLine)
open TL (tl)
variable {n : Nat} {S : Store} {Γ : Calls} {cs : List Nat}
theorem pairs_ms : ∀ {ms : List (List Nat)}, pairsD (ms.map fun m => .tup [dm m, .bl true]) = some (ms.map fun m => (.inr (sx m), .bl true))
  | [] => rfl
  | m :: ms => by
    rw [List.map_cons, List.map_cons]
    show (pairsD (ms.map fun m => .tup [dm m, .bl true])).map (((Sum.inr (sx m) : Sum Int Str), D.bl true) :: ·) = _
    rw [pairs_ms]
    rfl
theorem merge_keys {α : Type} : ∀ {ms : List (List Nat)} {a : α} {ls : List (List Nat)} {us : List α}, (ls ++ ms).Nodup → (mergeL (keys ls, us) (ms.map fun m => (.inr (sx m), a))).1 = keys (ls ++ ms)
  | [], a, ls, us, _ => by rw [List.append_nil]; rfl
  | m :: ms, a, ls, us, h => by
    have hm : m ∉ ls := fun hm => (List.nodup_append.mp h).2.2 _ hm _ List.mem_cons_self rfl
    have e : putL (keys ls) us (.inr (sx m)) a = (keys (ls ++ [m]), us ++ [a]) := by
      unfold putL
      have hk : ((keys ls).any fun j => decide (j = .inr (sx m))) = false := by
        have := kIn_keys (ms := ls) (m := m)
        rw [decide_eq_false hm] at this
        exact this
      rw [hk, if_neg (by decide)]
      unfold keys
      rw [List.map_append]
      rfl
    show (mergeL (putL (keys ls) us (.inr (sx m)) a) (ms.map fun m => (.inr (sx m), a))).1 = _
    rw [e, merge_keys (by rw [List.append_assoc]; exact h), List.append_assoc]
    rfl
theorem dict_ok {ms : List (List Nat)} (h : ms.Nodup) : ∃ vs, oDictP [.lst (ms.map fun m => .tup [dm m, .bl true])] S = .ok (.dct (keys ms) vs) S := by
  have e := merge_keys (α := D) (a := .bl true) (ls := []) (us := []) (ms := ms) h
  refine ⟨(mergeL ([], []) (ms.map fun m => ((.inr (sx m) : Sum Int Str), D.bl true))).2, ?_⟩
  unfold oDictP
  dsimp only
  rw [asL_l, Option.bind_some, pairs_ms]
  dsimp only
  rw [show (mergeL ([], []) (ms.map fun m => ((.inr (sx m) : Sum Int Str), D.bl true))).1 = keys ms from e]
theorem Gd.add {ns : List Nt} {m : List Nat} {a b : Int} (h : Gd cs ns) (hm : m ∉ ns.map (·.1)) (ht : Tx cs 20 m) (hb : 1 ≤ b) (hg : Nat.gcd a.natAbs b.natAbs = 1) (hl : ns.length < 20000) : Gd cs (ns ++ [(m, a, b)]) ∧ Gd cs ((m, a, b) :: ns) := by
  have h2 : Gd cs ((m, a, b) :: ns) := ⟨by rw [List.map_cons, List.nodup_cons]; exact ⟨hm, h.nd⟩, fun n hn => by
    rcases List.mem_cons.mp hn with rfl | hn
    · exact ⟨ht, hb, hg⟩
    · exact h.ok n hn, by rw [List.length_cons]; omega⟩
  have hp : (ns ++ [(m, a, b)]).Perm ((m, a, b) :: ns) := List.perm_append_comm
  exact ⟨⟨(hp.map _).nodup_iff.mpr h2.nd, fun n hn => h2.ok n (hp.mem_iff.mp hn), by rw [hp.length_eq]; exact h2.len⟩, h2⟩
def keyD : D → D | .tup (k :: _) => .tup [k, .bl true] | _ => .non
def notIn (ks : List (Sum Int Str)) : D → Bool | .str x => (true != kIn ks x) | _ => false
theorem filter_dm {l ms : List (List Nat)} : ((l.map dm).filter (notIn (keys ms))).map (fun d => d) = (l.filter fun m => !decide (m ∈ ms)).map dm := by
  rw [List.map_id', List.filter_map]
  refine congrArg (List.map dm) (List.filter_congr fun m _ => ?_)
  show (true != kIn (keys ms) (sx m)) = _
  rw [kIn_keys]
  cases decide (m ∈ ms) <;> rfl
/-- _law_number, as a call -/
def Nums (Γ : Calls) : Prop := ∀ {N p : Nat} {S : Store}, PotC N S p → N + 2 ≤ 1000000 → Sat (Γ 15 [.ref p] S) (fun d S' => (∃ a b : Int, d = .tup [.int a, .int b] ∧ 1 ≤ b ∧ Nat.gcd a.natAbs b.natAbs = 1) ∧ PotC (N + 2) S' p ∧ Fr1 S S' p) (fun _ _ _ => False)
/-- _law_nexts -/
theorem nexts_ok {N p most : Nat} {ns0 : List Nt} (tk : TkC Γ 9) (hnum : Nums Γ) (hc : Ls cs) (hP : PotC N S p) (hN : N + 20 ≤ 1000000) (hm : most ≤ 8) (hb : (bl cs (2 * most)).length ≤ 20000) (hG : Gd cs ns0) (hl : ns0.length ≤ 19990)
    (h17 : ∀ {ns : List Nt} {b : Bool} {S : Store}, Gd cs ns → Γ 17 [.str (sx cs), .int (most : Nat), .lst (ns.map dN), .bl b] S = .ok (fstN (bl cs (2 * most)) (ns.map (·.1))) S) :
    Sat (runBody (d18 Γ) 12 [.ref p, .str (sx cs), .int (most : Nat), .lst ((bl cs (2 * most)).map dm), .lst (ns0.map dN)] S) (fun d S' => d = .bl true ∧ PotC (N + 20) S' p ∧ Fx S S' p) (fun _ _ _ => False) := by
  have hB := bl_tx (cs := cs) hm
  have hBp := pure_dm hc hB
  unfold fstN at h17
  generalize bl cs (2 * most) = B at *
  unfold d18
  rw [Sat_body]; simp -implicitDefEqProofs only [List.map_cons, List.map_nil, List.length_cons, List.length_nil, List.replicate, List.cons_append, List.nil_append]
  try simp -implicitDefEqProofs only [Sat_ok, Sat_err, Sat_bad, Sat_bind, Sat_ite, W_var, W_vars, W_c, W_nil, W_cons, W_tup, W_lst, W_new, W_bin, W_un, W_fn, W_dfn, W_call, W_callP, W_if, W_isi, W_val, W_setI, W_app, W_pop, W_popAt, W_ins, W_augI, andK_b, orK_b, W_and, W_or, notK_b, W_not, boolK_b, W_tval, W_tnot, W_tand, W_tor, W_tyes, W_mul, W_mod, W_fdiv, W_pow, W_idxT, W_idxL, Sx_next, Sx_seq, Sx_pass, Sx_expr, Sx_set, Sx_ret, Sx_retN, Sx_brk, Sx_cont, Sx_raise, Sx_if, Sx_ite, Sx_par, Sx_par3, Sx_asg, Sx_for, outK_ret, outK_err, outK_brk, outK_cont, loopK_ret, loopK_err, loopK_brk, loopK_cont, W_rng1, rngK_i, W_rng2, rngK2_i, W_seq, seqK_t, seqK_l, W_enumA, enumK_t, enumK_l, W_zip2, oCat_i, oSub_i, oNeg_i, oLt_i, oLe_i, oGt_i, oGe_i, oInt_i, oAbs_i, oMax2_i, oMin2_i, oGcd_i, oIsN_ap, oNotN_ap, oEq_i, oNe_i, oNe_b, oEq_b, gTup_ap, gAll_cons, gNm_ap, gAll_nil, List.set, decide_eq_true_eq, decide_eq_false_iff_not, if_true, if_false, Bool.not_eq_true, Bool.not_eq_true', Bool.false_eq_true, true_and, and_true, Option.some.injEq, exists_eq_left', exists_eq_left, beq_iff_eq, beq_eq_false_iff_ne, optR_some, R.bind, W_lc, atI_c0, atI_c1, atI_c2, Sx_try, tryK_ret, tryK_brk, tryK_cont, offK_ret, offK_brk, offK_cont, Bool.not_true, Bool.not_false, Bool.true_eq_false, not_true_eq_false, not_false_eq_true, true_implies, false_implies, implies_true, Bool.or_false, Bool.or_true, Bool.and_true, Bool.and_false, Bool.true_and, Bool.false_and, Bool.true_or, Bool.false_or, W_str1, strK_s, W_dstr1, strKF_s, st_starts, W_seqS, seqSK_s, W_sl, W_oPart, W_oNo, partK_i, decide_true, decide_false, in_sgn]
  refine ⟨inR_of (by omega) (by omega), ?_⟩
  refine Sx_rng 4 rfl (fun i e U => PotC (N + i * 5) U p ∧ Fx S U p ∧ ∃ ns : List Nt, Gd cs ns ∧ ns.length ≤ 19990 + i ∧ ∃ a b c d f g h, e = [some (.ref p), some (.str (sx cs)), some (.int (most : Nat)), some (.lst (B.map dm)), some (.lst (ns.map dN)), a, b, c, d, f, g, h]) ⟨hP.mono (by omega), Fx.refl, ns0, hG, hl, none, none, none, none, none, none, none, rfl⟩ ?_ ?_
  · rintro i e U hi ⟨PU, FU, ns, hG, hl, a, b, c, d, f, g, h, rfl⟩
    try simp -implicitDefEqProofs only [Sat_ok, Sat_err, Sat_bad, Sat_bind, W_var, W_vars, W_c, W_nil, W_cons, W_tup, W_lst, W_new, W_bin, W_un, W_fn, W_dfn, W_call, W_callP, W_if, W_isi, W_val, W_setI, W_app, W_pop, W_popAt, W_ins, W_augI, andK_b, orK_b, W_and, W_or, notK_b, W_not, boolK_b, W_tval, W_tnot, W_tand, W_tor, W_tyes, W_mul, W_mod, W_fdiv, W_pow, W_idxT, W_idxL, Sx_next, Sx_seq, Sx_pass, Sx_expr, Sx_set, Sx_ret, Sx_retN, Sx_brk, Sx_cont, Sx_raise, Sx_if, Sx_par, Sx_par3, Sx_asg, Sx_for, outK_ret, outK_err, outK_brk, outK_cont, loopK_ret, loopK_err, loopK_brk, loopK_cont, W_rng1, rngK_i, W_rng2, rngK2_i, W_seq, seqK_t, seqK_l, W_enumA, enumK_t, enumK_l, W_zip2, oCat_i, oSub_i, oNeg_i, oLt_i, oLe_i, oGt_i, oGe_i, oInt_i, oAbs_i, oMax2_i, oMin2_i, oGcd_i, oIsN_ap, oNotN_ap, oEq_i, oNe_i, oNe_b, oEq_b, gTup_ap, gAll_cons, gNm_ap, gAll_nil, List.set, decide_eq_true_eq, decide_eq_false_iff_not, if_true, if_false, Bool.not_eq_true, Bool.not_eq_true', Bool.false_eq_true, true_and, and_true, Option.some.injEq, exists_eq_left', exists_eq_left, beq_iff_eq, beq_eq_false_iff_ne, optR_some, R.bind, W_lc, atI_c0, atI_c1, atI_c2, Sx_try, tryK_ret, tryK_brk, tryK_cont, offK_ret, offK_brk, offK_cont, Bool.not_true, Bool.not_false, Bool.true_eq_false, not_true_eq_false, not_false_eq_true, true_implies, false_implies, implies_true, Bool.or_false, Bool.or_true, Bool.and_true, Bool.and_false, Bool.true_and, Bool.false_and, Bool.true_or, Bool.false_or, W_str1, strK_s, W_dstr1, strKF_s, st_starts, W_seqS, seqSK_s, W_sl, W_oPart, W_oNo, partK_i, decide_true, decide_false, in_sgn]
    refine Sat_lcP keyD ?_ ?_ (by rw [List.length_map, slz]; omega) ?_
    · intro x hx S' _
      obtain ⟨⟨m, r, s⟩, _, rfl⟩ := List.mem_map.mp hx
      refine ⟨_, rfl, ?_⟩
      exact ⟨rfl, rfl⟩
    · intro x hx
      obtain ⟨⟨m, r, s⟩, _, rfl⟩ := List.mem_map.mp hx
      rfl
    · have ekey : (ns.map dN).map keyD = (ns.map (·.1)).map fun m => .tup [dm m, .bl true] := by
        rw [List.map_map, List.map_map]; rfl
      rw [ekey]
      obtain ⟨vs, ed⟩ := dict_ok (S := U) hG.nd
      rw [ed]
      try simp -implicitDefEqProofs only [Sat_ok, Sat_err, Sat_bad, Sat_bind, W_var, W_vars, W_c, W_nil, W_cons, W_tup, W_lst, W_new, W_bin, W_un, W_fn, W_dfn, W_call, W_callP, W_if, W_isi, W_val, W_setI, W_app, W_pop, W_popAt, W_ins, W_augI, andK_b, orK_b, W_and, W_or, notK_b, W_not, boolK_b, W_tval, W_tnot, W_tand, W_tor, W_tyes, W_mul, W_mod, W_fdiv, W_pow, W_idxT, W_idxL, Sx_next, Sx_seq, Sx_pass, Sx_expr, Sx_set, Sx_ret, Sx_retN, Sx_brk, Sx_cont, Sx_raise, Sx_if, Sx_par, Sx_par3, Sx_asg, Sx_for, outK_ret, outK_err, outK_brk, outK_cont, loopK_ret, loopK_err, loopK_brk, loopK_cont, W_rng1, rngK_i, W_rng2, rngK2_i, W_seq, seqK_t, seqK_l, W_enumA, enumK_t, enumK_l, W_zip2, oCat_i, oSub_i, oNeg_i, oLt_i, oLe_i, oGt_i, oGe_i, oInt_i, oAbs_i, oMax2_i, oMin2_i, oGcd_i, oIsN_ap, oNotN_ap, oEq_i, oNe_i, oNe_b, oEq_b, gTup_ap, gAll_cons, gNm_ap, gAll_nil, List.set, decide_eq_true_eq, decide_eq_false_iff_not, if_true, if_false, Bool.not_eq_true, Bool.not_eq_true', Bool.false_eq_true, true_and, and_true, Option.some.injEq, exists_eq_left', exists_eq_left, beq_iff_eq, beq_eq_false_iff_ne, optR_some, R.bind, W_lc, atI_c0, atI_c1, atI_c2, Sx_try, tryK_ret, tryK_brk, tryK_cont, offK_ret, offK_brk, offK_cont, Bool.not_true, Bool.not_false, Bool.true_eq_false, not_true_eq_false, not_false_eq_true, true_implies, false_implies, implies_true, Bool.or_false, Bool.or_true, Bool.and_true, Bool.and_false, Bool.true_and, Bool.false_and, Bool.true_or, Bool.false_or, W_str1, strK_s, W_dstr1, strKF_s, st_starts, W_seqS, seqSK_s, W_sl, W_oPart, W_oNo, partK_i, decide_true, decide_false, in_sgn]
      refine Sat_lcF (notIn (keys (ns.map (·.1)))) (fun d => d) ?_ (fun x hx => noRefL_iff.mp no_dm x hx) (by rw [List.length_map, slz]; omega) ?_
      · intro x hx S'
        obtain ⟨m, _, rfl⟩ := List.mem_map.mp hx
        exact ⟨_, rfl, rfl, fun _ => ⟨rfl, rfl⟩⟩
      · rw [filter_dm]
        have hLs : ∀ m ∈ B.filter (fun m => !decide (m ∈ ns.map (·.1))), Tx cs 20 m ∧ m ∉ ns.map (·.1) := fun m hm => by
          obtain ⟨h1, h2⟩ := List.mem_filter.mp hm
          refine ⟨hB m h1, fun z => ?_⟩
          rw [decide_eq_true z] at h2
          cases h2
        have h17' := @h17 ns
        generalize B.filter (fun m => !decide (m ∈ ns.map (·.1))) = L at *
        have hfl := fit_dm hc fun m hm => (hLs m hm).1
        try simp -implicitDefEqProofs only [Sat_ok, Sat_err, Sat_bad, Sat_bind, W_var, W_vars, W_c, W_nil, W_cons, W_tup, W_lst, W_new, W_bin, W_un, W_fn, W_dfn, W_call, W_callP, W_if, W_isi, W_val, W_setI, W_app, W_pop, W_popAt, W_ins, W_augI, andK_b, orK_b, W_and, W_or, notK_b, W_not, boolK_b, W_tval, W_tnot, W_tand, W_tor, W_tyes, W_mul, W_mod, W_fdiv, W_pow, W_idxT, W_idxL, Sx_next, Sx_seq, Sx_pass, Sx_expr, Sx_set, Sx_ret, Sx_retN, Sx_brk, Sx_cont, Sx_raise, Sx_if, Sx_par, Sx_par3, Sx_asg, Sx_for, outK_ret, outK_err, outK_brk, outK_cont, loopK_ret, loopK_err, loopK_brk, loopK_cont, W_rng1, rngK_i, W_rng2, rngK2_i, W_seq, seqK_t, seqK_l, W_enumA, enumK_t, enumK_l, W_zip2, oCat_i, oSub_i, oNeg_i, oLt_i, oLe_i, oGt_i, oGe_i, oInt_i, oAbs_i, oMax2_i, oMin2_i, oGcd_i, oIsN_ap, oNotN_ap, oEq_i, oNe_i, oNe_b, oEq_b, gTup_ap, gAll_cons, gNm_ap, gAll_nil, List.set, decide_eq_true_eq, decide_eq_false_iff_not, if_true, if_false, Bool.not_eq_true, Bool.not_eq_true', Bool.false_eq_true, true_and, and_true, Option.some.injEq, exists_eq_left', exists_eq_left, beq_iff_eq, beq_eq_false_iff_ne, optR_some, R.bind, W_lc, atI_c0, atI_c1, atI_c2, Sx_try, tryK_ret, tryK_brk, tryK_cont, offK_ret, offK_brk, offK_cont, Bool.not_true, Bool.not_false, Bool.true_eq_false, not_true_eq_false, not_false_eq_true, true_implies, false_implies, implies_true, Bool.or_false, Bool.or_true, Bool.and_true, Bool.and_false, Bool.true_and, Bool.false_and, Bool.true_or, Bool.false_or, W_str1, strK_s, W_dstr1, strKF_s, st_starts, W_seqS, seqSK_s, W_sl, W_oPart, W_oNo, partK_i, decide_true, decide_false, in_sgn]
        refine Sat_use0 (tk PU (by decide) (by decide) (by omega)) ?_
        rintro _ U1 ⟨w, rfl, w0, w1, P1, F1⟩
        simp -implicitDefEqProofs only [Sat_ok, Sat_err, Sat_bad, Sat_bind, W_var, W_vars, W_c, W_nil, W_cons, W_tup, W_lst, W_new, W_bin, W_un, W_fn, W_dfn, W_call, W_callP, W_if, W_isi, W_val, W_setI, W_app, W_pop, W_popAt, W_ins, W_augI, andK_b, orK_b, W_and, W_or, notK_b, W_not, boolK_b, W_tval, W_tnot, W_tand, W_tor, W_tyes, W_mul, W_mod, W_fdiv, W_pow, W_idxT, W_idxL, Sx_next, Sx_seq, Sx_pass, Sx_expr, Sx_set, Sx_ret, Sx_retN, Sx_brk, Sx_cont, Sx_raise, Sx_if, Sx_par, Sx_par3, Sx_asg, Sx_for, outK_ret, outK_err, outK_brk, outK_cont, loopK_ret, loopK_err, loopK_brk, loopK_cont, W_rng1, rngK_i, W_rng2, rngK2_i, W_seq, seqK_t, seqK_l, W_enumA, enumK_t, enumK_l, W_zip2, oCat_i, oSub_i, oNeg_i, oLt_i, oLe_i, oGt_i, oGe_i, oInt_i, oAbs_i, oMax2_i, oMin2_i, oGcd_i, oIsN_ap, oNotN_ap, oEq_i, oNe_i, oNe_b, oEq_b, gTup_ap, gAll_cons, gNm_ap, gAll_nil, List.set, decide_eq_true_eq, decide_eq_false_iff_not, if_true, if_false, Bool.not_eq_true, Bool.not_eq_true', Bool.false_eq_true, true_and, and_true, Option.some.injEq, exists_eq_left', exists_eq_left, beq_iff_eq, beq_eq_false_iff_ne, optR_some, R.bind, W_lc, atI_c0, atI_c1, atI_c2, Sx_try, tryK_ret, tryK_brk, tryK_cont, offK_ret, offK_brk, offK_cont, Bool.not_true, Bool.not_false, Bool.true_eq_false, not_true_eq_false, not_false_eq_true, true_implies, false_implies, implies_true, Bool.or_false, Bool.or_true, Bool.and_true, Bool.and_false, Bool.true_and, Bool.false_and, Bool.true_or, Bool.false_or, W_str1, strK_s, W_dstr1, strKF_s, st_starts, W_seqS, seqSK_s, W_sl, W_oPart, W_oNo, partK_i, decide_true, decide_false, in_sgn, h17' hG]
        rw [eq_look (look_no (by unfold noRef; exact no_dm)) (look_no rfl) hfl rfl]
        cases L with
        | nil =>
          have e1 : eqB (.lst (([] : List (List Nat)).map dm)) (.lst []) = true := rfl
          rw [e1]
          try simp -implicitDefEqProofs only [Sat_ok, Sat_err, Sat_bad, Sat_bind, Sat_ite, W_var, W_vars, W_c, W_nil, W_cons, W_tup, W_lst, W_new, W_bin, W_un, W_fn, W_dfn, W_call, W_callP, W_if, W_isi, W_val, W_setI, W_app, W_pop, W_popAt, W_ins, W_augI, andK_b, orK_b, W_and, W_or, notK_b, W_not, boolK_b, W_tval, W_tnot, W_tand, W_tor, W_tyes, W_mul, W_mod, W_fdiv, W_pow, W_idxT, W_idxL, Sx_next, Sx_seq, Sx_pass, Sx_expr, Sx_set, Sx_ret, Sx_retN, Sx_brk, Sx_cont, Sx_raise, Sx_if, Sx_ite, Sx_par, Sx_par3, Sx_asg, Sx_for, outK_ret, outK_err, outK_brk, outK_cont, loopK_ret, loopK_err, loopK_brk, loopK_cont, W_rng1, rngK_i, W_rng2, rngK2_i, W_seq, seqK_t, seqK_l, W_enumA, enumK_t, enumK_l, W_zip2, oCat_i, oSub_i, oNeg_i, oLt_i, oLe_i, oGt_i, oGe_i, oInt_i, oAbs_i, oMax2_i, oMin2_i, oGcd_i, oIsN_ap, oNotN_ap, oEq_i, oNe_i, oNe_b, oEq_b, gTup_ap, gAll_cons, gNm_ap, gAll_nil, List.set, decide_eq_true_eq, decide_eq_false_iff_not, if_true, if_false, Bool.not_eq_true, Bool.not_eq_true', Bool.false_eq_true, true_and, and_true, Option.some.injEq, exists_eq_left', exists_eq_left, beq_iff_eq, beq_eq_false_iff_ne, optR_some, R.bind, W_lc, atI_c0, atI_c1, atI_c2, Sx_try, tryK_ret, tryK_brk, tryK_cont, offK_ret, offK_brk, offK_cont, Bool.not_true, Bool.not_false, Bool.true_eq_false, not_true_eq_false, not_false_eq_true, true_implies, false_implies, implies_true, Bool.or_false, Bool.or_true, Bool.and_true, Bool.and_false, Bool.true_and, Bool.false_and, Bool.true_or, Bool.false_or, W_str1, strK_s, W_dstr1, strKF_s, st_starts, W_seqS, seqSK_s, W_sl, W_oPart, W_oNo, partK_i, decide_true, decide_false, in_sgn]
          exact ⟨rfl, P1.mono (by omega), FU.trans (Fx.of F1)⟩
        | cons m L =>
          have e1 : eqB (.lst ((m :: L).map dm)) (.lst []) = false := rfl
          obtain ⟨hmt, hmn⟩ := hLs m List.mem_cons_self
          have e2 : kdOf anc (dm m) U1 = some (.ty .str) := rfl
          have e3 : ([Cl.ty .str].any (isK anc (.ty .str))) = true := by decide
          have e4 : oNe (dm m) (dm m) U1 = .ok (.bl false) U1 := by
            show oNe (.str (sx m)) (.str (sx m)) U1 = _
            rw [ne_s (hmt.okx hc).ok (hmt.okx hc).ok]
            simp
          have e5 : L2.atI ((m :: L).map dm) 0 = some (dm m) := atI_c0
          rw [e1]
          try simp -implicitDefEqProofs only [Sat_ok, Sat_err, Sat_bad, Sat_bind, W_var, W_vars, W_c, W_nil, W_cons, W_tup, W_lst, W_new, W_bin, W_un, W_fn, W_dfn, W_call, W_callP, W_if, W_isi, W_val, W_setI, W_app, W_pop, W_popAt, W_ins, W_augI, andK_b, orK_b, W_and, W_or, notK_b, W_not, boolK_b, W_tval, W_tnot, W_tand, W_tor, W_tyes, W_mul, W_mod, W_fdiv, W_pow, W_idxT, W_idxL, Sx_next, Sx_seq, Sx_pass, Sx_expr, Sx_set, Sx_ret, Sx_retN, Sx_brk, Sx_cont, Sx_raise, Sx_if, Sx_par, Sx_par3, Sx_asg, Sx_for, outK_ret, outK_err, outK_brk, outK_cont, loopK_ret, loopK_err, loopK_brk, loopK_cont, W_rng1, rngK_i, W_rng2, rngK2_i, W_seq, seqK_t, seqK_l, W_enumA, enumK_t, enumK_l, W_zip2, oCat_i, oSub_i, oNeg_i, oLt_i, oLe_i, oGt_i, oGe_i, oInt_i, oAbs_i, oMax2_i, oMin2_i, oGcd_i, oIsN_ap, oNotN_ap, oEq_i, oNe_i, oNe_b, oEq_b, gTup_ap, gAll_cons, gNm_ap, gAll_nil, List.set, decide_eq_true_eq, decide_eq_false_iff_not, if_true, if_false, Bool.not_eq_true, Bool.not_eq_true', Bool.false_eq_true, true_and, and_true, Option.some.injEq, exists_eq_left', exists_eq_left, beq_iff_eq, beq_eq_false_iff_ne, optR_some, R.bind, W_lc, atI_c0, atI_c1, atI_c2, Sx_try, tryK_ret, tryK_brk, tryK_cont, offK_ret, offK_brk, offK_cont, Bool.not_true, Bool.not_false, Bool.true_eq_false, not_true_eq_false, not_false_eq_true, true_implies, false_implies, implies_true, Bool.or_false, Bool.or_true, Bool.and_true, Bool.and_false, Bool.true_and, Bool.false_and, Bool.true_or, Bool.false_or, W_str1, strK_s, W_dstr1, strKF_s, st_starts, W_seqS, seqSK_s, W_sl, W_oPart, W_oNo, partK_i, decide_true, decide_false, in_sgn]
          rw [e2]
          simp -implicitDefEqProofs only [Sat_ok, Sat_err, Sat_bad, Sat_bind, W_var, W_vars, W_c, W_nil, W_cons, W_tup, W_lst, W_new, W_bin, W_un, W_fn, W_dfn, W_call, W_callP, W_if, W_isi, W_val, W_setI, W_app, W_pop, W_popAt, W_ins, W_augI, andK_b, orK_b, W_and, W_or, notK_b, W_not, boolK_b, W_tval, W_tnot, W_tand, W_tor, W_tyes, W_mul, W_mod, W_fdiv, W_pow, W_idxT, W_idxL, Sx_next, Sx_seq, Sx_pass, Sx_expr, Sx_set, Sx_ret, Sx_retN, Sx_brk, Sx_cont, Sx_raise, Sx_if, Sx_par, Sx_par3, Sx_asg, Sx_for, outK_ret, outK_err, outK_brk, outK_cont, loopK_ret, loopK_err, loopK_brk, loopK_cont, W_rng1, rngK_i, W_rng2, rngK2_i, W_seq, seqK_t, seqK_l, W_enumA, enumK_t, enumK_l, W_zip2, oCat_i, oSub_i, oNeg_i, oLt_i, oLe_i, oGt_i, oGe_i, oInt_i, oAbs_i, oMax2_i, oMin2_i, oGcd_i, oIsN_ap, oNotN_ap, oEq_i, oNe_i, oNe_b, oEq_b, gTup_ap, gAll_cons, gNm_ap, gAll_nil, List.set, decide_eq_true_eq, decide_eq_false_iff_not, if_true, if_false, Bool.not_eq_true, Bool.not_eq_true', Bool.false_eq_true, true_and, and_true, Option.some.injEq, exists_eq_left', exists_eq_left, beq_iff_eq, beq_eq_false_iff_ne, optR_some, R.bind, W_lc, atI_c0, atI_c1, atI_c2, Sx_try, tryK_ret, tryK_brk, tryK_cont, offK_ret, offK_brk, offK_cont, Bool.not_true, Bool.not_false, Bool.true_eq_false, not_true_eq_false, not_false_eq_true, true_implies, false_implies, implies_true, Bool.or_false, Bool.or_true, Bool.and_true, Bool.and_false, Bool.true_and, Bool.false_and, Bool.true_or, Bool.false_or, W_str1, strK_s, W_dstr1, strKF_s, st_starts, W_seqS, seqSK_s, W_sl, W_oPart, W_oNo, partK_i, decide_true, decide_false, in_sgn, e3, e5, e4]
          refine Sat_use0 (hnum P1 (by omega)) ?_
          rintro _ U2 ⟨⟨r, s, rfl, hs, hg⟩, P2, F2⟩
          try simp -implicitDefEqProofs only [Sat_ok, Sat_err, Sat_bad, Sat_bind, W_var, W_vars, W_c, W_nil, W_cons, W_tup, W_lst, W_new, W_bin, W_un, W_fn, W_dfn, W_call, W_callP, W_if, W_isi, W_val, W_setI, W_app, W_pop, W_popAt, W_ins, W_augI, andK_b, orK_b, W_and, W_or, notK_b, W_not, boolK_b, W_tval, W_tnot, W_tand, W_tor, W_tyes, W_mul, W_mod, W_fdiv, W_pow, W_idxT, W_idxL, Sx_next, Sx_seq, Sx_pass, Sx_expr, Sx_set, Sx_ret, Sx_retN, Sx_brk, Sx_cont, Sx_raise, Sx_if, Sx_par, Sx_par3, Sx_asg, Sx_for, outK_ret, outK_err, outK_brk, outK_cont, loopK_ret, loopK_err, loopK_brk, loopK_cont, W_rng1, rngK_i, W_rng2, rngK2_i, W_seq, seqK_t, seqK_l, W_enumA, enumK_t, enumK_l, W_zip2, oCat_i, oSub_i, oNeg_i, oLt_i, oLe_i, oGt_i, oGe_i, oInt_i, oAbs_i, oMax2_i, oMin2_i, oGcd_i, oIsN_ap, oNotN_ap, oEq_i, oNe_i, oNe_b, oEq_b, gTup_ap, gAll_cons, gNm_ap, gAll_nil, List.set, decide_eq_true_eq, decide_eq_false_iff_not, if_true, if_false, Bool.not_eq_true, Bool.not_eq_true', Bool.false_eq_true, true_and, and_true, Option.some.injEq, exists_eq_left', exists_eq_left, beq_iff_eq, beq_eq_false_iff_ne, optR_some, R.bind, W_lc, atI_c0, atI_c1, atI_c2, Sx_try, tryK_ret, tryK_brk, tryK_cont, offK_ret, offK_brk, offK_cont, Bool.not_true, Bool.not_false, Bool.true_eq_false, not_true_eq_false, not_false_eq_true, true_implies, false_implies, implies_true, Bool.or_false, Bool.or_true, Bool.and_true, Bool.and_false, Bool.true_and, Bool.false_and, Bool.true_or, Bool.false_or, W_str1, strK_s, W_dstr1, strKF_s, st_starts, W_seqS, seqSK_s, W_sl, W_oPart, W_oNo, partK_i, decide_true, decide_false, in_sgn]
          refine Sat_use0 (tk P2 (by decide) (by decide) (by omega)) ?_
          rintro _ U3 ⟨u, rfl, u0, u1, P3, F3⟩
          try simp -implicitDefEqProofs only [Sat_ok, Sat_err, Sat_bad, Sat_bind, W_var, W_vars, W_c, W_nil, W_cons, W_tup, W_lst, W_new, W_bin, W_un, W_fn, W_dfn, W_call, W_callP, W_if, W_isi, W_val, W_setI, W_app, W_pop, W_popAt, W_ins, W_augI, andK_b, orK_b, W_and, W_or, notK_b, W_not, boolK_b, W_tval, W_tnot, W_tand, W_tor, W_tyes, W_mul, W_mod, W_fdiv, W_pow, W_idxT, W_idxL, Sx_next, Sx_seq, Sx_pass, Sx_expr, Sx_set, Sx_ret, Sx_retN, Sx_brk, Sx_cont, Sx_raise, Sx_if, Sx_par, Sx_par3, Sx_asg, Sx_for, outK_ret, outK_err, outK_brk, outK_cont, loopK_ret, loopK_err, loopK_brk, loopK_cont, W_rng1, rngK_i, W_rng2, rngK2_i, W_seq, seqK_t, seqK_l, W_enumA, enumK_t, enumK_l, W_zip2, oCat_i, oSub_i, oNeg_i, oLt_i, oLe_i, oGt_i, oGe_i, oInt_i, oAbs_i, oMax2_i, oMin2_i, oGcd_i, oIsN_ap, oNotN_ap, oEq_i, oNe_i, oNe_b, oEq_b, gTup_ap, gAll_cons, gNm_ap, gAll_nil, List.set, decide_eq_true_eq, decide_eq_false_iff_not, if_true, if_false, Bool.not_eq_true, Bool.not_eq_true', Bool.false_eq_true, true_and, and_true, Option.some.injEq, exists_eq_left', exists_eq_left, beq_iff_eq, beq_eq_false_iff_ne, optR_some, R.bind, W_lc, atI_c0, atI_c1, atI_c2, Sx_try, tryK_ret, tryK_brk, tryK_cont, offK_ret, offK_brk, offK_cont, Bool.not_true, Bool.not_false, Bool.true_eq_false, not_true_eq_false, not_false_eq_true, true_implies, false_implies, implies_true, Bool.or_false, Bool.or_true, Bool.and_true, Bool.and_false, Bool.true_and, Bool.false_and, Bool.true_or, Bool.false_or, W_str1, strK_s, W_dstr1, strKF_s, st_starts, W_seqS, seqSK_s, W_sl, W_oPart, W_oNo, partK_i, decide_true, decide_false, in_sgn]
          obtain ⟨g1, g2⟩ := hG.add hmn hmt hs hg (by omega)
          have F4 := ((FU.trans (Fx.of F1)).trans (Fx.of F2)).trans (Fx.of F3)
          have c1 : oCat (.lst (ns.map dN)) (.lst [.tup [dm m, .tup [.int r, .int s]]]) U3 = .ok (.lst ((ns ++ [(m, r, s)]).map dN)) U3 := by
            rw [cat_l asL_l asL_l (by rw [List.length_map]; simp; omega), List.map_append]; rfl
          have c2 : oCat (.lst [.tup [dm m, .tup [.int r, .int s]]]) (.lst (ns.map dN)) U3 = .ok (.lst (((m, r, s) :: ns).map dN)) U3 := by
            rw [cat_l asL_l asL_l (by rw [List.length_map]; simp; omega)]; rfl
          by_cases hu : u = 0
          · rw [if_pos hu]
            simp -implicitDefEqProofs only [Sat_ok, Sat_err, Sat_bad, Sat_bind, W_var, W_vars, W_c, W_nil, W_cons, W_tup, W_lst, W_new, W_bin, W_un, W_fn, W_dfn, W_call, W_callP, W_if, W_isi, W_val, W_setI, W_app, W_pop, W_popAt, W_ins, W_augI, andK_b, orK_b, W_and, W_or, notK_b, W_not, boolK_b, W_tval, W_tnot, W_tand, W_tor, W_tyes, W_mul, W_mod, W_fdiv, W_pow, W_idxT, W_idxL, Sx_next, Sx_seq, Sx_pass, Sx_expr, Sx_set, Sx_ret, Sx_retN, Sx_brk, Sx_cont, Sx_raise, Sx_if, Sx_par, Sx_par3, Sx_asg, Sx_for, outK_ret, outK_err, outK_brk, outK_cont, loopK_ret, loopK_err, loopK_brk, loopK_cont, W_rng1, rngK_i, W_rng2, rngK2_i, W_seq, seqK_t, seqK_l, W_enumA, enumK_t, enumK_l, W_zip2, oCat_i, oSub_i, oNeg_i, oLt_i, oLe_i, oGt_i, oGe_i, oInt_i, oAbs_i, oMax2_i, oMin2_i, oGcd_i, oIsN_ap, oNotN_ap, oEq_i, oNe_i, oNe_b, oEq_b, gTup_ap, gAll_cons, gNm_ap, gAll_nil, List.set, decide_eq_true_eq, decide_eq_false_iff_not, if_true, if_false, Bool.not_eq_true, Bool.not_eq_true', Bool.false_eq_true, true_and, and_true, Option.some.injEq, exists_eq_left', exists_eq_left, beq_iff_eq, beq_eq_false_iff_ne, optR_some, R.bind, W_lc, atI_c0, atI_c1, atI_c2, Sx_try, tryK_ret, tryK_brk, tryK_cont, offK_ret, offK_brk, offK_cont, Bool.not_true, Bool.not_false, Bool.true_eq_false, not_true_eq_false, not_false_eq_true, true_implies, false_implies, implies_true, Bool.or_false, Bool.or_true, Bool.and_true, Bool.and_false, Bool.true_and, Bool.false_and, Bool.true_or, Bool.false_or, W_str1, strK_s, W_dstr1, strKF_s, st_starts, W_seqS, seqSK_s, W_sl, W_oPart, W_oNo, partK_i, decide_true, decide_false, in_sgn, c1]
            exact ⟨P3.mono (by omega), F4, _, g1, by rw [List.length_append, List.length_singleton]; omega, _, _, _, _, _, _, _, rfl⟩
          · rw [if_neg hu]
            simp -implicitDefEqProofs only [Sat_ok, Sat_err, Sat_bad, Sat_bind, W_var, W_vars, W_c, W_nil, W_cons, W_tup, W_lst, W_new, W_bin, W_un, W_fn, W_dfn, W_call, W_callP, W_if, W_isi, W_val, W_setI, W_app, W_pop, W_popAt, W_ins, W_augI, andK_b, orK_b, W_and, W_or, notK_b, W_not, boolK_b, W_tval, W_tnot, W_tand, W_tor, W_tyes, W_mul, W_mod, W_fdiv, W_pow, W_idxT, W_idxL, Sx_next, Sx_seq, Sx_pass, Sx_expr, Sx_set, Sx_ret, Sx_retN, Sx_brk, Sx_cont, Sx_raise, Sx_if, Sx_par, Sx_par3, Sx_asg, Sx_for, outK_ret, outK_err, outK_brk, outK_cont, loopK_ret, loopK_err, loopK_brk, loopK_cont, W_rng1, rngK_i, W_rng2, rngK2_i, W_seq, seqK_t, seqK_l, W_enumA, enumK_t, enumK_l, W_zip2, oCat_i, oSub_i, oNeg_i, oLt_i, oLe_i, oGt_i, oGe_i, oInt_i, oAbs_i, oMax2_i, oMin2_i, oGcd_i, oIsN_ap, oNotN_ap, oEq_i, oNe_i, oNe_b, oEq_b, gTup_ap, gAll_cons, gNm_ap, gAll_nil, List.set, decide_eq_true_eq, decide_eq_false_iff_not, if_true, if_false, Bool.not_eq_true, Bool.not_eq_true', Bool.false_eq_true, true_and, and_true, Option.some.injEq, exists_eq_left', exists_eq_left, beq_iff_eq, beq_eq_false_iff_ne, optR_some, R.bind, W_lc, atI_c0, atI_c1, atI_c2, Sx_try, tryK_ret, tryK_brk, tryK_cont, offK_ret, offK_brk, offK_cont, Bool.not_true, Bool.not_false, Bool.true_eq_false, not_true_eq_false, not_false_eq_true, true_implies, false_implies, implies_true, Bool.or_false, Bool.or_true, Bool.and_true, Bool.and_false, Bool.true_and, Bool.false_and, Bool.true_or, Bool.false_or, W_str1, strK_s, W_dstr1, strKF_s, st_starts, W_seqS, seqSK_s, W_sl, W_oPart, W_oNo, partK_i, decide_true, decide_false, in_sgn, c2]
            exact ⟨P3.mono (by omega), F4, _, g2, by rw [List.length_cons]; omega, _, _, _, _, _, _, _, rfl⟩
  · rintro e U ⟨PU, FU, ns, hG, hl, a, b, c, d, f, g, h, rfl⟩
    try simp -implicitDefEqProofs only [Sat_ok, Sat_err, Sat_bad, Sat_bind, Sat_ite, W_var, W_vars, W_c, W_nil, W_cons, W_tup, W_lst, W_new, W_bin, W_un, W_fn, W_dfn, W_call, W_callP, W_if, W_isi, W_val, W_setI, W_app, W_pop, W_popAt, W_ins, W_augI, andK_b, orK_b, W_and, W_or, notK_b, W_not, boolK_b, W_tval, W_tnot, W_tand, W_tor, W_tyes, W_mul, W_mod, W_fdiv, W_pow, W_idxT, W_idxL, Sx_next, Sx_seq, Sx_pass, Sx_expr, Sx_set, Sx_ret, Sx_retN, Sx_brk, Sx_cont, Sx_raise, Sx_if, Sx_ite, Sx_par, Sx_par3, Sx_asg, Sx_for, outK_ret, outK_err, outK_brk, outK_cont, loopK_ret, loopK_err, loopK_brk, loopK_cont, W_rng1, rngK_i, W_rng2, rngK2_i, W_seq, seqK_t, seqK_l, W_enumA, enumK_t, enumK_l, W_zip2, oCat_i, oSub_i, oNeg_i, oLt_i, oLe_i, oGt_i, oGe_i, oInt_i, oAbs_i, oMax2_i, oMin2_i, oGcd_i, oIsN_ap, oNotN_ap, oEq_i, oNe_i, oNe_b, oEq_b, gTup_ap, gAll_cons, gNm_ap, gAll_nil, List.set, decide_eq_true_eq, decide_eq_false_iff_not, if_true, if_false, Bool.not_eq_true, Bool.not_eq_true', Bool.false_eq_true, true_and, and_true, Option.some.injEq, exists_eq_left', exists_eq_left, beq_iff_eq, beq_eq_false_iff_ne, optR_some, R.bind, W_lc, atI_c0, atI_c1, atI_c2, Sx_try, tryK_ret, tryK_brk, tryK_cont, offK_ret, offK_brk, offK_cont, Bool.not_true, Bool.not_false, Bool.true_eq_false, not_true_eq_false, not_false_eq_true, true_implies, false_implies, implies_true, Bool.or_false, Bool.or_true, Bool.and_true, Bool.and_false, Bool.true_and, Bool.false_and, Bool.true_or, Bool.false_or, W_str1, strK_s, W_dstr1, strKF_s, st_starts, W_seqS, seqSK_s, W_sl, W_oPart, W_oNo, partK_i, decide_true, decide_false, in_sgn]
    exact ⟨PU.mono (by omega), FU⟩
end K73

set_option maxHeartbeats 4000000
namespace K73
open Py
open PySem (Str sizeLine)
open TL (tl)
variable {n : Nat} {S : Store} {Γ : Calls} {cs : List Nat}
theorem tidy_same_of {r : Py.R D} {d : D} {S : Store} (h : Sat r (fun d' S' => d' = d ∧ S' = S) (fun _ _ _ => False)) : tidy S r = .ok d S := by
  rw [ok_of_Sat h]
  exact tidy_ok0
theorem tidy_pre_of {r : Py.R D} {d : D} {S : Store} (hn : noRef d = true) (h : Sat r (fun d' S' => d' = d ∧ Pre S S') (fun _ _ _ => False)) : tidy S r = .ok d S := by
  cases r with
  | ok d' S' =>
    obtain ⟨rfl, hP⟩ := h
    exact tidy_pre hP hn
  | err c v S' => exact h.elim
  | bad => exact h.elim
theorem tidy_O {r : Py.R D} {d : D} {S : Store} (h : OkR r (fun d' S' => d' = d ∧ S' = S)) : tidy S r = .ok d S := tidy_same_of h.h
theorem s9 : TkC (calls (n + 1)) 9 := tkJ_of (u := 86028121) (v := 32452843) (by omega) (by omega) fun args S => c9
theorem s0 {a b : Int} {S : Store} : calls (n + 1) 0 [.tup [.int a, .int b]] S = .ok (.bl (decide (1 ≤ b) && decide (Nat.gcd a.natAbs b.natAbs = 1))) S := by rw [c0]; exact tidy_same_of isnum_ok
theorem s1 {S : Store} (h : Ls cs) : calls (n + 1) 1 [.str (sx cs)] S = .ok .non S := by rw [c1]; exact tidy_same_of (signs_ok h)
theorem s2 {k m : Nat} {S : Store} (h : Sz cs m) (hk : k ≤ m) (hc : cs.length ≤ 3) : calls (n + 1) 2 [.str (sx cs), .int (k : Nat)] S = .ok (.lst ((lv cs k).map dm)) S := by rw [c2]; exact tidy_O (of_ok h hk hc)
theorem s4 {k : Nat} {S : Store} : calls (n + 1) 4 [.int (k : Nat)] S = .ok .non S := by rw [c4]; exact tidy_same_of size_ok
theorem s3 {m : Nat} {S : Store} (h : Sz cs m) (hc : cs.length ≤ 3) : OkR (calls (n + 2) 3 [.str (sx cs), .int (m : Nat)] S) (fun d S' => d = .ref S.length ∧ S' = S ++ [.lst ((bl cs m).map dm)]) := by
  rw [c3]; exact below_ok h fun k hk S => s2 h hk hc
theorem s6 {most : Nat} (h : Sz cs (2 * most)) (hc : Ls cs) (hm : most ≤ 8) : Asks (calls (n + 3)) cs most := fun S => by
  rw [c6]; refine OkR.h ?_; exact asked_ok (fun S => s1 hc) (fun S => s4) (by omega) fun S => s3 h hc.len
theorem s5 {ns : List Nt} {q : Nat} {S : Store} (hc : Ls cs) (h : Gd cs ns) (hq : S[q]? = some (.lst (ns.map dN))) : Sat (calls (n + 2) 5 [.str (sx cs), .ref q] S) (fun d S' => d = .ref S.length ∧ ∃ vs, S' = S ++ [.dct (keys (ns.map (·.1))) vs]) (fun _ _ _ => False) := by
  rw [c5]
  have h2 := answers_ok (Γ := calls (n + 1)) hc h hq fun a b S => s0
  cases e : runBody (d5 (calls (n + 1))) 8 [.str (sx cs), .ref q] S with
  | ok d S' =>
    rw [e] at h2
    obtain ⟨rfl, vs, rfl⟩ := h2
    have er : res S.length (S ++ [.dct (keys (ns.map (·.1))) vs]) (.ref S.length) = none := by
      unfold res mapR resN
      rw [if_neg (Nat.lt_irrefl _), new_at]
    have et : tidy S (.ok (.ref S.length) (S ++ [.dct (keys (ns.map (·.1))) vs])) = .ok (.ref S.length) (S ++ [.dct (keys (ns.map (·.1))) vs]) := by
      unfold tidy
      simp only [if_neg (show ¬ (S ++ [O.dct (keys (ns.map (·.1))) vs]).length ≤ S.length by rw [List.length_append, List.length_singleton]; omega), er]
    rw [et]
    exact ⟨rfl, vs, rfl⟩
  | err c v S' => rw [e] at h2; exact h2.elim
  | bad => rw [e] at h2; exact h2.elim
theorem no_fst {due ms : List (List Nat)} : noRef (fstN due ms) = true := by
  unfold fstN
  split <;> rfl
theorem s7 {most q : Nat} {ns : List Nt} {S : Store} (h : Sz cs (2 * most)) (hc : Ls cs) (hm : most ≤ 8) (hG : Gd cs ns) (hq : S[q]? = some (.lst (ns.map dN))) (hb : (bl cs (2 * most)).length ≤ 20000) :
    calls (n + 4) 7 [.str (sx cs), .int (most : Nat), .ref q] S = .ok (fstN (bl cs (2 * most)) (ns.map (·.1))) S := by
  rw [c7]; exact tidy_pre_of no_fst (next_ok hq hb (s6 h hc hm) fun S hq => s5 hc hG hq)
theorem s17 {most : Nat} {ns : List Nt} {b : Bool} {S : Store} (h : Sz cs (2 * most)) (hc : Ls cs) (hm : most ≤ 8) (hb : (bl cs (2 * most)).length ≤ 20000) (hG : Gd cs ns) :
    calls (n + 5) 17 [.str (sx cs), .int (most : Nat), .lst (ns.map dN), .bl b] S = .ok (fstN (bl cs (2 * most)) (ns.map (·.1))) S := by
  rw [c17]; exact tidy_pre_of no_fst (lawnext_ok hc hG fun S q hq => s7 h hc hm hG hq hb)
theorem s15 : Nums (calls (n + 2)) := fun {N p S} hP hN => by
  rw [c15]
  refine Sat_tidy (Sat_use0 (num_ok s9 hP hN) ?_)
  rintro d S' ⟨h1, h2, h3⟩
  exact ⟨h3.1, h1, h2, h3⟩
theorem of_bl {r : Py.R D} {N p : Nat} {S : Store} (hp : p < S.length) (h : Sat r (fun d S' => d = .bl true ∧ PotC N S' p ∧ Fx S S' p) (fun _ _ _ => False)) : Sat (tidy S r) (fun d S' => d = .bl true ∧ PotC N S' p ∧ Fr1 S S' p) (fun _ _ _ => False) :=
  Sat_tidyC hp (Sat_use0 h fun d S' ⟨h1, h2, h3⟩ => ⟨h2, h3, .inl ⟨by rw [h1]; rfl, h1⟩⟩)
theorem s16 {N p most : Nat} {S : Store} (h : Sz cs (2 * most)) (hc : Ls cs) (hP : PotC N S p) (hN : N + 1 ≤ 1000000) (hm : most ≤ 8) (hb : (bl cs (2 * most)).length ≤ 20000) :
    Sat (calls (n + 4) 16 [.ref p, .str (sx cs), .int (most : Nat), .lst ((bl cs (2 * most)).map dm)] S) (fun d S' => d = .bl true ∧ PotC (N + 1) S' p ∧ Fr1 S S' p) (fun _ _ _ => False) := by
  rw [c16]; exact of_bl hP.lt (listed_ok s9 (s6 h hc hm) hc hP hN hm hb)
theorem s18 {N p most : Nat} {ns : List Nt} {S : Store} (h : Sz cs (2 * most)) (hc : Ls cs) (hP : PotC N S p) (hN : N + 20 ≤ 1000000) (hm : most ≤ 8) (hb : (bl cs (2 * most)).length ≤ 20000) (hG : Gd cs ns) (hl : ns.length ≤ 19990) :
    Sat (calls (n + 6) 18 [.ref p, .str (sx cs), .int (most : Nat), .lst ((bl cs (2 * most)).map dm), .lst (ns.map dN)] S) (fun d S' => d = .bl true ∧ PotC (N + 20) S' p ∧ Fr1 S S' p) (fun _ _ _ => False) := by
  rw [c18]; exact of_bl hP.lt (nexts_ok s9 s15 hc hP hN hm hb hG hl fun hG => s17 h hc hm hb hG)
theorem s11 {m : Nat} {S : Store} (h : Sz cs m) (hc : cs.length ≤ 3) : calls (n + 1) 11 [.str (sx cs), .int (m : Nat)] S = .ok (.lst ((bl cs m).map dm)) S := by
  rw [c11]
  have h2 := lawmsgs_ok (Γ := calls n) (S := S) h hc
  cases e : runBody (d11 (calls n)) 8 [.str (sx cs), .int (m : Nat)] S with
  | ok d S' =>
    rw [e] at h2
    obtain ⟨rfl, hP, hg⟩ := h2.h
    exact tidy_preR hP (Nat.le_refl _) hg no_dm
  | err c v S' => rw [e] at h2; exact h2.h.elim
  | bad => rw [e] at h2; exact h2.h.elim
theorem s10 {N p m : Nat} {S : Store} (hP : PotC N S p) (hN : N + 3 ≤ 1000000) (hm : 1 ≤ m ∧ m ≤ 3) :
    OkR (calls (n + 2) 10 [.ref p, .int (m : Nat)] S) (fun d S' => (∃ cs, d = .str (sx cs) ∧ Ls cs ∧ cs.length = m) ∧ PotC (N + m) S' p ∧ Fr1 S S' p) := by
  rw [c10]
  refine OkR.tidyC hP.lt (OkR.mono (letters_ok s9 hP hN hm) ?_)
  rintro d S' ⟨h1, h2, cs, rfl, h3⟩
  exact ⟨h1, h2, .inl ⟨rfl, cs, rfl, h3⟩⟩
theorem s12 {N p : Nat} {rows : List D} {S : Store} (hP : PotC N S p) (hN : N + 30000 ≤ 1000000) (hl : rows.length ≤ 20000) (hn : noRefL rows = true) :
    Sat (calls (n + 2) 12 [.ref p, .lst rows] S) (fun d S' => (∃ r2, d = .lst r2 ∧ r2.Perm rows) ∧ PotC (N + 20001) S' p ∧ Fr1 S S' p) (fun _ _ _ => False) := by
  rw [c12]; exact Sat_tidyC hP.lt (order_ok s9 hP hN hl hn)
theorem s13 {N p : Nat} {due : List (List Nat)} {S : Store} (hP : PotC N S p) (hN : N + 30000 ≤ 1000000) (hl : due.length ≤ 20000) :
    Sat (calls (n + 2) 13 [.ref p, .lst (due.map dm)] S) (fun d S' => SubD due d ∧ PotC (N + 20002) S' p ∧ Fr1 S S' p) (fun _ _ _ => False) := by
  rw [c13]; exact Sat_tidyC hP.lt (some_ok s9 hP hN hl)
theorem s14 {N p most : Nat} {S : Store} (hc : Ls cs) (hP : PotC N S p) (hN : N + 100 ≤ 1000000) (hm : most ≤ 8) :
    Sat (calls (n + 2) 14 [.ref p, .str (sx cs), .int (most : Nat)] S) (fun d S' => LongD cs most d ∧ PotC (N + 100) S' p ∧ Fr1 S S' p) (fun _ _ _ => False) := by
  rw [c14]; exact Sat_tidyC hP.lt (longer_ok s9 hc hP hN hm)
theorem s8 {ns : List Int} {k : Nat} {S : Store} (hl : ns.length ≤ 63) (hk : k ≤ 2) : Sat (calls (n + 1) 8 [.fls ns, .int (k : Nat)] S) (fun d S' => d = .ref S.length ∧ PotC 0 S' S.length ∧ ∃ o, S' = S ++ [o]) (fun _ _ _ => False) := by
  rw [c8]; exact bag_ok hl hk
/-! ### the law -/
theorem sz_of {cs : List Nat} {most : Nat} (hc : Ls cs) (h : most ≤ 8 ∧ cs.length = 1 ∨ most ≤ 3) : Sz cs (2 * most) := by
  have hcl := hc.len
  rcases h with ⟨h1, h2⟩ | h
  · exact ⟨by omega, fun k hk => by rw [h2, Nat.one_pow]; decide⟩
  · refine ⟨by omega, fun k hk => ?_⟩
    have h1 : cs.length ^ k ≤ 3 ^ k := Nat.pow_le_pow_left hcl k
    have h2 : 3 ^ k ≤ 3 ^ 6 := Nat.pow_le_pow_right (by decide) (by omega)
    exact Nat.le_trans h1 h2
def gN : D → Nt | .tup [.str x, .tup [.int a, .int b]] => (tl x, a, b) | _ => ([], 0, 0)
theorem gN_dN {n : Nt} : gN (dN n) = n := rfl
theorem perm_dN {r2 : List D} {ns : List Nt} (h : r2.Perm (ns.map dN)) : ∃ ns2 : List Nt, r2 = ns2.map dN ∧ ns2.Perm ns := by
  refine ⟨r2.map gN, ?_, ?_⟩
  · rw [List.map_map]
    conv => lhs; rw [← List.map_id r2]
    refine List.map_congr_left fun d hd => ?_
    obtain ⟨n, _, rfl⟩ := List.mem_map.mp (h.mem_iff.mp hd)
    rfl
  · have := h.map gN
    rw [List.map_map] at this
    have e : ns.map (gN ∘ dN) = ns := by
      have e2 : gN ∘ dN = id := rfl
      rw [e2, List.map_id]
    rw [e] at this
    exact this
theorem notes_of : ∀ {ms : List (List Nat)} {ds : List D}, ds.length = ms.length → (∀ (i : Nat) (x d : D), (ms.map dm)[i]? = some x → ds[i]? = some d → ∃ a b : Int, d = .tup [x, .tup [.int a, .int b]] ∧ 1 ≤ b ∧ Nat.gcd a.natAbs b.natAbs = 1) →
    ∃ ns : List Nt, ds = ns.map dN ∧ ns.map (·.1) = ms ∧ ∀ n ∈ ns, 1 ≤ n.2.2 ∧ Nat.gcd n.2.1.natAbs n.2.2.natAbs = 1
  | [], [], _, _ => ⟨[], rfl, rfl, fun n hn => by cases hn⟩
  | m :: ms, d :: ds, hl, h => by
    obtain ⟨ns, h1, h2, h3⟩ := notes_of (ms := ms) (ds := ds) (Nat.succ.inj hl) fun i x d hx hd => h (i + 1) x d hx hd
    obtain ⟨a, b, rfl, hb, hg⟩ := h 0 (dm m) d rfl rfl
    refine ⟨(m, a, b) :: ns, by rw [h1]; rfl, by rw [List.map_cons, h2], fun n hn => ?_⟩
    rcases List.mem_cons.mp hn with rfl | hn
    · exact ⟨hb, hg⟩
    · exact h3 n hn
theorem law_ok {ns : List Int} (hl : ns.length ≤ 63) : ∃ S', calls (n + 7) 19 [.fls ns] [] = .ok (.bl true) S' := by
  have h : Sat (runBody (d19 (calls (n + 6))) 9 [.fls ns] []) (fun d S' => d = .bl true) (fun _ _ _ => False) := by
    have lf : ∀ S : Store, oLen [.fls ns] S = .ok (.int ns.length) S := fun S => by
      show Py.R.ok (D.int ((ns.map D.int).length : Nat)) S = _
      rw [List.length_map]
    unfold d19
    rw [Sat_body]; simp -implicitDefEqProofs only [List.map_cons, List.map_nil, List.length_cons, List.length_nil, List.replicate, List.cons_append, List.nil_append]
    simp -implicitDefEqProofs only [Sat_ok, Sat_err, Sat_bad, Sat_bind, W_var, W_vars, W_c, W_nil, W_cons, W_tup, W_lst, W_new, W_bin, W_un, W_fn, W_dfn, W_call, W_callP, W_if, W_isi, W_val, W_setI, W_app, W_pop, W_popAt, W_ins, W_augI, andK_b, orK_b, W_and, W_or, notK_b, W_not, boolK_b, W_tval, W_tnot, W_tand, W_tor, W_tyes, W_mul, W_mod, W_fdiv, W_pow, W_idxT, W_idxL, Sx_next, Sx_seq, Sx_pass, Sx_expr, Sx_set, Sx_ret, Sx_retN, Sx_brk, Sx_cont, Sx_raise, Sx_if, Sx_par, Sx_par3, Sx_asg, Sx_for, outK_ret, outK_err, outK_brk, outK_cont, loopK_ret, loopK_err, loopK_brk, loopK_cont, W_rng1, rngK_i, W_rng2, rngK2_i, W_seq, seqK_t, seqK_l, W_enumA, enumK_t, enumK_l, W_zip2, oCat_i, oSub_i, oNeg_i, oLt_i, oLe_i, oGt_i, oGe_i, oInt_i, oAbs_i, oMax2_i, oMin2_i, oGcd_i, oIsN_ap, oNotN_ap, oEq_i, oNe_i, oNe_b, oEq_b, gTup_ap, gAll_cons, gNm_ap, gAll_nil, List.set, decide_eq_true_eq, decide_eq_false_iff_not, if_true, if_false, Bool.not_eq_true, Bool.not_eq_true', Bool.false_eq_true, true_and, and_true, Option.some.injEq, exists_eq_left', exists_eq_left, beq_iff_eq, beq_eq_false_iff_ne, optR_some, R.bind, W_lc, atI_c0, atI_c1, atI_c2, Sx_try, tryK_ret, tryK_brk, tryK_cont, offK_ret, offK_brk, offK_cont, Bool.not_true, Bool.not_false, Bool.true_eq_false, not_true_eq_false, not_false_eq_true, true_implies, false_implies, implies_true, Bool.or_false, Bool.or_true, Bool.and_true, Bool.and_false, Bool.true_and, Bool.false_and, Bool.true_or, Bool.false_or, W_str1, strK_s, W_dstr1, strKF_s, st_starts, W_seqS, seqSK_s, W_sl, W_oPart, W_oNo, partK_i, decide_true, decide_false, in_sgn, lf]
    obtain ⟨c, hc, hc2⟩ : ∃ c : Nat, max 1 (min 3 (ns.length : Int)) = c ∧ c ≤ 3 := ⟨(max 1 (min 3 (ns.length : Int))).toNat, by omega, by omega⟩
    rw [hc]
    refine ⟨inR_of (by omega) (by omega), ?_⟩
    refine Sx_rng c (Int.toNat_natCast _) (fun i e U => ∃ a b c d f g h k, e = [some (.fls ns), a, b, c, d, f, g, h, k]) ⟨none, none, none, none, none, none, none, none, rfl⟩ ?_ ?_
    · rintro i e U hi ⟨a, b, c, d, f, g, h, k, rfl⟩
      try simp -implicitDefEqProofs only [Sat_ok, Sat_err, Sat_bad, Sat_bind, W_var, W_vars, W_c, W_nil, W_cons, W_tup, W_lst, W_new, W_bin, W_un, W_fn, W_dfn, W_call, W_callP, W_if, W_isi, W_val, W_setI, W_app, W_pop, W_popAt, W_ins, W_augI, andK_b, orK_b, W_and, W_or, notK_b, W_not, boolK_b, W_tval, W_tnot, W_tand, W_tor, W_tyes, W_mul, W_mod, W_fdiv, W_pow, W_idxT, W_idxL, Sx_next, Sx_seq, Sx_pass, Sx_expr, Sx_set, Sx_ret, Sx_retN, Sx_brk, Sx_cont, Sx_raise, Sx_if, Sx_par, Sx_par3, Sx_asg, Sx_for, outK_ret, outK_err, outK_brk, outK_cont, loopK_ret, loopK_err, loopK_brk, loopK_cont, W_rng1, rngK_i, W_rng2, rngK2_i, W_seq, seqK_t, seqK_l, W_enumA, enumK_t, enumK_l, W_zip2, oCat_i, oSub_i, oNeg_i, oLt_i, oLe_i, oGt_i, oGe_i, oInt_i, oAbs_i, oMax2_i, oMin2_i, oGcd_i, oIsN_ap, oNotN_ap, oEq_i, oNe_i, oNe_b, oEq_b, gTup_ap, gAll_cons, gNm_ap, gAll_nil, List.set, decide_eq_true_eq, decide_eq_false_iff_not, if_true, if_false, Bool.not_eq_true, Bool.not_eq_true', Bool.false_eq_true, true_and, and_true, Option.some.injEq, exists_eq_left', exists_eq_left, beq_iff_eq, beq_eq_false_iff_ne, optR_some, R.bind, W_lc, atI_c0, atI_c1, atI_c2, Sx_try, tryK_ret, tryK_brk, tryK_cont, offK_ret, offK_brk, offK_cont, Bool.not_true, Bool.not_false, Bool.true_eq_false, not_true_eq_false, not_false_eq_true, true_implies, false_implies, implies_true, Bool.or_false, Bool.or_true, Bool.and_true, Bool.and_false, Bool.true_and, Bool.false_and, Bool.true_or, Bool.false_or, W_str1, strK_s, W_dstr1, strKF_s, st_starts, W_seqS, seqSK_s, W_sl, W_oPart, W_oNo, partK_i, decide_true, decide_false, in_sgn]
      refine Sat_use0 (s8 (n := n + 5) hl (by omega)) ?_
      rintro _ _ ⟨rfl, P1, o, rfl⟩
      generalize U ++ [o] = S1 at *
      generalize U.length = p at *
      try simp -implicitDefEqProofs only [Sat_ok, Sat_err, Sat_bad, Sat_bind, W_var, W_vars, W_c, W_nil, W_cons, W_tup, W_lst, W_new, W_bin, W_un, W_fn, W_dfn, W_call, W_callP, W_if, W_isi, W_val, W_setI, W_app, W_pop, W_popAt, W_ins, W_augI, andK_b, orK_b, W_and, W_or, notK_b, W_not, boolK_b, W_tval, W_tnot, W_tand, W_tor, W_tyes, W_mul, W_mod, W_fdiv, W_pow, W_idxT, W_idxL, Sx_next, Sx_seq, Sx_pass, Sx_expr, Sx_set, Sx_ret, Sx_retN, Sx_brk, Sx_cont, Sx_raise, Sx_if, Sx_par, Sx_par3, Sx_asg, Sx_for, outK_ret, outK_err, outK_brk, outK_cont, loopK_ret, loopK_err, loopK_brk, loopK_cont, W_rng1, rngK_i, W_rng2, rngK2_i, W_seq, seqK_t, seqK_l, W_enumA, enumK_t, enumK_l, W_zip2, oCat_i, oSub_i, oNeg_i, oLt_i, oLe_i, oGt_i, oGe_i, oInt_i, oAbs_i, oMax2_i, oMin2_i, oGcd_i, oIsN_ap, oNotN_ap, oEq_i, oNe_i, oNe_b, oEq_b, gTup_ap, gAll_cons, gNm_ap, gAll_nil, List.set, decide_eq_true_eq, decide_eq_false_iff_not, if_true, if_false, Bool.not_eq_true, Bool.not_eq_true', Bool.false_eq_true, true_and, and_true, Option.some.injEq, exists_eq_left', exists_eq_left, beq_iff_eq, beq_eq_false_iff_ne, optR_some, R.bind, W_lc, atI_c0, atI_c1, atI_c2, Sx_try, tryK_ret, tryK_brk, tryK_cont, offK_ret, offK_brk, offK_cont, Bool.not_true, Bool.not_false, Bool.true_eq_false, not_true_eq_false, not_false_eq_true, true_implies, false_implies, implies_true, Bool.or_false, Bool.or_true, Bool.and_true, Bool.and_false, Bool.true_and, Bool.false_and, Bool.true_or, Bool.false_or, W_str1, strK_s, W_dstr1, strKF_s, st_starts, W_seqS, seqSK_s, W_sl, W_oPart, W_oNo, partK_i, decide_true, decide_false, in_sgn]
      refine Sat_use0 (s9 (n := n + 5) P1 (by decide) (by decide) (by omega)) ?_
      rintro _ S2 ⟨v, rfl, v0, v1, P2, F2⟩
      try simp -implicitDefEqProofs only [Sat_ok, Sat_err, Sat_bad, Sat_bind, W_var, W_vars, W_c, W_nil, W_cons, W_tup, W_lst, W_new, W_bin, W_un, W_fn, W_dfn, W_call, W_callP, W_if, W_isi, W_val, W_setI, W_app, W_pop, W_popAt, W_ins, W_augI, andK_b, orK_b, W_and, W_or, notK_b, W_not, boolK_b, W_tval, W_tnot, W_tand, W_tor, W_tyes, W_mul, W_mod, W_fdiv, W_pow, W_idxT, W_idxL, Sx_next, Sx_seq, Sx_pass, Sx_expr, Sx_set, Sx_ret, Sx_retN, Sx_brk, Sx_cont, Sx_raise, Sx_if, Sx_par, Sx_par3, Sx_asg, Sx_for, outK_ret, outK_err, outK_brk, outK_cont, loopK_ret, loopK_err, loopK_brk, loopK_cont, W_rng1, rngK_i, W_rng2, rngK2_i, W_seq, seqK_t, seqK_l, W_enumA, enumK_t, enumK_l, W_zip2, oCat_i, oSub_i, oNeg_i, oLt_i, oLe_i, oGt_i, oGe_i, oInt_i, oAbs_i, oMax2_i, oMin2_i, oGcd_i, oIsN_ap, oNotN_ap, oEq_i, oNe_i, oNe_b, oEq_b, gTup_ap, gAll_cons, gNm_ap, gAll_nil, List.set, decide_eq_true_eq, decide_eq_false_iff_not, if_true, if_false, Bool.not_eq_true, Bool.not_eq_true', Bool.false_eq_true, true_and, and_true, Option.some.injEq, exists_eq_left', exists_eq_left, beq_iff_eq, beq_eq_false_iff_ne, optR_some, R.bind, W_lc, atI_c0, atI_c1, atI_c2, Sx_try, tryK_ret, tryK_brk, tryK_cont, offK_ret, offK_brk, offK_cont, Bool.not_true, Bool.not_false, Bool.true_eq_false, not_true_eq_false, not_false_eq_true, true_implies, false_implies, implies_true, Bool.or_false, Bool.or_true, Bool.and_true, Bool.and_false, Bool.true_and, Bool.false_and, Bool.true_or, Bool.false_or, W_str1, strK_s, W_dstr1, strKF_s, st_starts, W_seqS, seqSK_s, W_sl, W_oPart, W_oNo, partK_i, decide_true, decide_false, in_sgn]
      obtain ⟨m, hm⟩ : ∃ m : Nat, 1 + v = m := ⟨(1 + v).toNat, by omega⟩
      rw [hm]
      have ex10 := (s10 (n := n + 4) P2 (by omega) (show 1 ≤ m ∧ m ≤ 3 by omega)).ex
      revert ex10
      generalize calls (n + 6) 10 [D.ref p, D.int (m : Nat)] S2 = r10
      rintro ⟨_, S3, rfl, ⟨cs, rfl, hcs, hcl⟩, P3, F3⟩
      have hl3 := hcs.len
      simp -implicitDefEqProofs only [Sat_ok, Sat_err, Sat_bad, Sat_bind, W_var, W_vars, W_c, W_nil, W_cons, W_tup, W_lst, W_new, W_bin, W_un, W_fn, W_dfn, W_call, W_callP, W_if, W_isi, W_val, W_setI, W_app, W_pop, W_popAt, W_ins, W_augI, andK_b, orK_b, W_and, W_or, notK_b, W_not, boolK_b, W_tval, W_tnot, W_tand, W_tor, W_tyes, W_mul, W_mod, W_fdiv, W_pow, W_idxT, W_idxL, Sx_next, Sx_seq, Sx_pass, Sx_expr, Sx_set, Sx_ret, Sx_retN, Sx_brk, Sx_cont, Sx_raise, Sx_if, Sx_par, Sx_par3, Sx_asg, Sx_for, outK_ret, outK_err, outK_brk, outK_cont, loopK_ret, loopK_err, loopK_brk, loopK_cont, W_rng1, rngK_i, W_rng2, rngK2_i, W_seq, seqK_t, seqK_l, W_enumA, enumK_t, enumK_l, W_zip2, oCat_i, oSub_i, oNeg_i, oLt_i, oLe_i, oGt_i, oGe_i, oInt_i, oAbs_i, oMax2_i, oMin2_i, oGcd_i, oIsN_ap, oNotN_ap, oEq_i, oNe_i, oNe_b, oEq_b, gTup_ap, gAll_cons, gNm_ap, gAll_nil, List.set, decide_eq_true_eq, decide_eq_false_iff_not, if_true, if_false, Bool.not_eq_true, Bool.not_eq_true', Bool.false_eq_true, true_and, and_true, Option.some.injEq, exists_eq_left', exists_eq_left, beq_iff_eq, beq_eq_false_iff_ne, optR_some, R.bind, W_lc, atI_c0, atI_c1, atI_c2, Sx_try, tryK_ret, tryK_brk, tryK_cont, offK_ret, offK_brk, offK_cont, Bool.not_true, Bool.not_false, Bool.true_eq_false, not_true_eq_false, not_false_eq_true, true_implies, false_implies, implies_true, Bool.or_false, Bool.or_true, Bool.and_true, Bool.and_false, Bool.true_and, Bool.false_and, Bool.true_or, Bool.false_or, W_str1, strK_s, W_dstr1, strKF_s, st_starts, W_seqS, seqSK_s, W_sl, W_oPart, W_oNo, partK_i, decide_true, decide_false, in_sgn, len_s (x := sx cs) (by rw [mk_len]; omega)]
      have hml : ((sx cs).length : Int) = (cs.length : Int) := by rw [mk_len]
      rw [hml]
      obtain ⟨q, hq, hq2⟩ : ∃ q : Int, (if (cs.length : Int) = 1 then (Py.R.ok (D.int 9) S3 : Py.R D) else .ok (.int 4) S3) = .ok (.int q) S3 ∧ (q = 9 ∧ cs.length = 1 ∨ q = 4) := by
        by_cases h1 : (cs.length : Int) = 1
        · exact ⟨9, if_pos h1, .inl ⟨rfl, by omega⟩⟩
        · exact ⟨4, if_neg h1, .inr rfl⟩
      refine Sat_use0 (Q := fun d S' => d = .int q ∧ S' = S3) ?_ ?_
      · by_cases h1 : (cs.length : Int) = 1
        · rw [if_pos h1] at hq ⊢
          cases hq
          exact ⟨rfl, rfl⟩
        · rw [if_neg h1] at hq ⊢
          cases hq
          exact ⟨rfl, rfl⟩
      rintro _ _ ⟨rfl, rfl⟩
      refine Sat_use0 (s9 (n := n + 5) P3 (by omega) (sm (B := 10) (by omega) (by decide)) (by omega)) ?_
      rintro _ S4 ⟨w, rfl, w0, w1, P4, F4⟩
      obtain ⟨most, rfl⟩ : ∃ most : Nat, w = most := ⟨w.toNat, by omega⟩
      have hmost : most ≤ 8 := by omega
      have hsz : Sz cs (2 * most) := sz_of hcs (by omega)
      have hB := hsz.bl (k := 2 * most) (Nat.le_refl _)
      have hB2 : (bl cs (2 * most)).length ≤ 11664 := by omega
      have hmo : mulOk 2 (most : Int) = true := mulOk_small (by decide) (sm (B := 100) (by omega) (by decide))
      have e2 : (2 * (most : Int)) = ((2 * most : Nat) : Int) := by omega
      simp -implicitDefEqProofs only [Sat_ok, Sat_err, Sat_bad, Sat_bind, W_var, W_vars, W_c, W_nil, W_cons, W_tup, W_lst, W_new, W_bin, W_un, W_fn, W_dfn, W_call, W_callP, W_if, W_isi, W_val, W_setI, W_app, W_pop, W_popAt, W_ins, W_augI, andK_b, orK_b, W_and, W_or, notK_b, W_not, boolK_b, W_tval, W_tnot, W_tand, W_tor, W_tyes, W_mul, W_mod, W_fdiv, W_pow, W_idxT, W_idxL, Sx_next, Sx_seq, Sx_pass, Sx_expr, Sx_set, Sx_ret, Sx_retN, Sx_brk, Sx_cont, Sx_raise, Sx_if, Sx_par, Sx_par3, Sx_asg, Sx_for, outK_ret, outK_err, outK_brk, outK_cont, loopK_ret, loopK_err, loopK_brk, loopK_cont, W_rng1, rngK_i, W_rng2, rngK2_i, W_seq, seqK_t, seqK_l, W_enumA, enumK_t, enumK_l, W_zip2, oCat_i, oSub_i, oNeg_i, oLt_i, oLe_i, oGt_i, oGe_i, oInt_i, oAbs_i, oMax2_i, oMin2_i, oGcd_i, oIsN_ap, oNotN_ap, oEq_i, oNe_i, oNe_b, oEq_b, gTup_ap, gAll_cons, gNm_ap, gAll_nil, List.set, decide_eq_true_eq, decide_eq_false_iff_not, if_true, if_false, Bool.not_eq_true, Bool.not_eq_true', Bool.false_eq_true, true_and, and_true, Option.some.injEq, exists_eq_left', exists_eq_left, beq_iff_eq, beq_eq_false_iff_ne, optR_some, R.bind, W_lc, atI_c0, atI_c1, atI_c2, Sx_try, tryK_ret, tryK_brk, tryK_cont, offK_ret, offK_brk, offK_cont, Bool.not_true, Bool.not_false, Bool.true_eq_false, not_true_eq_false, not_false_eq_true, true_implies, false_implies, implies_true, Bool.or_false, Bool.or_true, Bool.and_true, Bool.and_false, Bool.true_and, Bool.false_and, Bool.true_or, Bool.false_or, W_str1, strK_s, W_dstr1, strKF_s, st_starts, W_seqS, seqSK_s, W_sl, W_oPart, W_oNo, partK_i, decide_true, decide_false, in_sgn, oRep_i hmo, e2, s11 (n := n + 5) hsz hl3]
      refine Sat_use0 (s13 (n := n + 4) P4 (by omega) (by omega)) ?_
      rintro _ S5 ⟨⟨sub, rfl, hsub⟩, P5, F5⟩
      refine Sat_use0 (s14 (n := n + 4) hcs P5 (by omega) hmost) ?_
      rintro _ S6 ⟨⟨ws, rfl, hw1, hw2, hw3⟩, P6, F6⟩
      have hsl := hsub.length_le
      rw [cat_l asL_l asL_l (by rw [List.length_map, List.length_map]; omega), ← List.map_append]
      try simp -implicitDefEqProofs only [Sat_ok, Sat_err, Sat_bad, Sat_bind, W_var, W_vars, W_c, W_nil, W_cons, W_tup, W_lst, W_new, W_bin, W_un, W_fn, W_dfn, W_call, W_callP, W_if, W_isi, W_val, W_setI, W_app, W_pop, W_popAt, W_ins, W_augI, andK_b, orK_b, W_and, W_or, notK_b, W_not, boolK_b, W_tval, W_tnot, W_tand, W_tor, W_tyes, W_mul, W_mod, W_fdiv, W_pow, W_idxT, W_idxL, Sx_next, Sx_seq, Sx_pass, Sx_expr, Sx_set, Sx_ret, Sx_retN, Sx_brk, Sx_cont, Sx_raise, Sx_if, Sx_par, Sx_par3, Sx_asg, Sx_for, outK_ret, outK_err, outK_brk, outK_cont, loopK_ret, loopK_err, loopK_brk, loopK_cont, W_rng1, rngK_i, W_rng2, rngK2_i, W_seq, seqK_t, seqK_l, W_enumA, enumK_t, enumK_l, W_zip2, oCat_i, oSub_i, oNeg_i, oLt_i, oLe_i, oGt_i, oGe_i, oInt_i, oAbs_i, oMax2_i, oMin2_i, oGcd_i, oIsN_ap, oNotN_ap, oEq_i, oNe_i, oNe_b, oEq_b, gTup_ap, gAll_cons, gNm_ap, gAll_nil, List.set, decide_eq_true_eq, decide_eq_false_iff_not, if_true, if_false, Bool.not_eq_true, Bool.not_eq_true', Bool.false_eq_true, true_and, and_true, Option.some.injEq, exists_eq_left', exists_eq_left, beq_iff_eq, beq_eq_false_iff_ne, optR_some, R.bind, W_lc, atI_c0, atI_c1, atI_c2, Sx_try, tryK_ret, tryK_brk, tryK_cont, offK_ret, offK_brk, offK_cont, Bool.not_true, Bool.not_false, Bool.true_eq_false, not_true_eq_false, not_false_eq_true, true_implies, false_implies, implies_true, Bool.or_false, Bool.or_true, Bool.and_true, Bool.and_false, Bool.true_and, Bool.false_and, Bool.true_or, Bool.false_or, W_str1, strK_s, W_dstr1, strKF_s, st_starts, W_seqS, seqSK_s, W_sl, W_oPart, W_oNo, partK_i, decide_true, decide_false, in_sgn]
      have hnd : (sub ++ ws).Nodup := by
        rw [List.nodup_append]
        refine ⟨hsub.nodup (bl_nodup hcs.nodup), hw1, fun x hx y hy e => ?_⟩
        subst e
        have h1 := (bl_mem (hsub.subset hx)).1
        have h2 := (hw3 x hy).1
        omega
      have htx : ∀ m ∈ sub ++ ws, Tx cs 20 m := fun m hm => by
        rcases List.mem_append.mp hm with hm | hm
        · exact bl_tx hmost m (hsub.subset hm)
        · obtain ⟨a1, a2, a3⟩ := hw3 m hm
          exact ⟨by omega, a3⟩
      have hlen : (sub ++ ws).length ≤ 11700 := by rw [List.length_append]; omega
      generalize sub ++ ws = ms at *
      refine Sat_drawC 2 (fun _ x d => ∃ a b : Int, d = .tup [x, .tup [.int a, .int b]] ∧ 1 ≤ b ∧ Nat.gcd a.natAbs b.natAbs = 1) P6 ?_ (by rw [List.length_map, slz]; omega) ?_
      · intro j x U1 hx PU1
        obtain ⟨hj, hx2⟩ := List.getElem?_eq_some_iff.mp hx
        rw [List.length_map] at hj
        have hxc : x = dm ms[j] := by rw [← hx2, List.getElem_map]
        refine ⟨_, rfl, ?_⟩
        simp -implicitDefEqProofs only [Sat_ok, Sat_err, Sat_bad, Sat_bind, W_var, W_vars, W_c, W_nil, W_cons, W_tup, W_lst, W_new, W_bin, W_un, W_fn, W_dfn, W_call, W_callP, W_if, W_isi, W_val, W_setI, W_app, W_pop, W_popAt, W_ins, W_augI, andK_b, orK_b, W_and, W_or, notK_b, W_not, boolK_b, W_tval, W_tnot, W_tand, W_tor, W_tyes, W_mul, W_mod, W_fdiv, W_pow, W_idxT, W_idxL, Sx_next, Sx_seq, Sx_pass, Sx_expr, Sx_set, Sx_ret, Sx_retN, Sx_brk, Sx_cont, Sx_raise, Sx_if, Sx_par, Sx_par3, Sx_asg, Sx_for, outK_ret, outK_err, outK_brk, outK_cont, loopK_ret, loopK_err, loopK_brk, loopK_cont, W_rng1, rngK_i, W_rng2, rngK2_i, W_seq, seqK_t, seqK_l, W_enumA, enumK_t, enumK_l, W_zip2, oCat_i, oSub_i, oNeg_i, oLt_i, oLe_i, oGt_i, oGe_i, oInt_i, oAbs_i, oMax2_i, oMin2_i, oGcd_i, oIsN_ap, oNotN_ap, oEq_i, oNe_i, oNe_b, oEq_b, gTup_ap, gAll_cons, gNm_ap, gAll_nil, List.set, decide_eq_true_eq, decide_eq_false_iff_not, if_true, if_false, Bool.not_eq_true, Bool.not_eq_true', Bool.false_eq_true, true_and, and_true, Option.some.injEq, exists_eq_left', exists_eq_left, beq_iff_eq, beq_eq_false_iff_ne, optR_some, R.bind, W_lc, atI_c0, atI_c1, atI_c2, Sx_try, tryK_ret, tryK_brk, tryK_cont, offK_ret, offK_brk, offK_cont, Bool.not_true, Bool.not_false, Bool.true_eq_false, not_true_eq_false, not_false_eq_true, true_implies, false_implies, implies_true, Bool.or_false, Bool.or_true, Bool.and_true, Bool.and_false, Bool.true_and, Bool.false_and, Bool.true_or, Bool.false_or, W_str1, strK_s, W_dstr1, strKF_s, st_starts, W_seqS, seqSK_s, W_sl, W_oPart, W_oNo, partK_i, decide_true, decide_false, in_sgn, wipeE]
        refine Sat_use0 (s15 (n := n + 4) PU1 (by omega)) ?_
        rintro _ U2 ⟨⟨a, b, rfl, hb, hg⟩, P2, F2⟩
        exact ⟨P2, F2, by rw [hxc]; rfl, a, b, rfl, hb, hg⟩
      · intro ds S7 hdl hR hno P7 F7
        rw [List.length_map] at P7 hdl
        obtain ⟨nts, rfl, hn1, hn2⟩ := notes_of hdl hR
        have hnl : nts.length = ms.length := by rw [← hn1, List.length_map]
        refine Sat_use0 (s12 (n := n + 4) P7 (by omega) (by rw [List.length_map]; omega) hno) ?_
        rintro _ S8 ⟨⟨r2, rfl, hr2⟩, P8, F8⟩
        obtain ⟨ns2, rfl, hp2⟩ := perm_dN hr2
        have hG : Gd cs ns2 := ⟨(hp2.map _).nodup_iff.mpr (by rw [hn1]; exact hnd), fun x hx => by
          have hx := hp2.mem_iff.mp hx
          exact ⟨htx _ (by rw [← hn1]; exact List.mem_map_of_mem hx), hn2 x hx⟩, by rw [hp2.length_eq]; omega⟩
        try simp -implicitDefEqProofs only [Sat_ok, Sat_err, Sat_bad, Sat_bind, W_var, W_vars, W_c, W_nil, W_cons, W_tup, W_lst, W_new, W_bin, W_un, W_fn, W_dfn, W_call, W_callP, W_if, W_isi, W_val, W_setI, W_app, W_pop, W_popAt, W_ins, W_augI, andK_b, orK_b, W_and, W_or, notK_b, W_not, boolK_b, W_tval, W_tnot, W_tand, W_tor, W_tyes, W_mul, W_mod, W_fdiv, W_pow, W_idxT, W_idxL, Sx_next, Sx_seq, Sx_pass, Sx_expr, Sx_set, Sx_ret, Sx_retN, Sx_brk, Sx_cont, Sx_raise, Sx_if, Sx_par, Sx_par3, Sx_asg, Sx_for, outK_ret, outK_err, outK_brk, outK_cont, loopK_ret, loopK_err, loopK_brk, loopK_cont, W_rng1, rngK_i, W_rng2, rngK2_i, W_seq, seqK_t, seqK_l, W_enumA, enumK_t, enumK_l, W_zip2, oCat_i, oSub_i, oNeg_i, oLt_i, oLe_i, oGt_i, oGe_i, oInt_i, oAbs_i, oMax2_i, oMin2_i, oGcd_i, oIsN_ap, oNotN_ap, oEq_i, oNe_i, oNe_b, oEq_b, gTup_ap, gAll_cons, gNm_ap, gAll_nil, List.set, decide_eq_true_eq, decide_eq_false_iff_not, if_true, if_false, Bool.not_eq_true, Bool.not_eq_true', Bool.false_eq_true, true_and, and_true, Option.some.injEq, exists_eq_left', exists_eq_left, beq_iff_eq, beq_eq_false_iff_ne, optR_some, R.bind, W_lc, atI_c0, atI_c1, atI_c2, Sx_try, tryK_ret, tryK_brk, tryK_cont, offK_ret, offK_brk, offK_cont, Bool.not_true, Bool.not_false, Bool.true_eq_false, not_true_eq_false, not_false_eq_true, true_implies, false_implies, implies_true, Bool.or_false, Bool.or_true, Bool.and_true, Bool.and_false, Bool.true_and, Bool.false_and, Bool.true_or, Bool.false_or, W_str1, strK_s, W_dstr1, strKF_s, st_starts, W_seqS, seqSK_s, W_sl, W_oPart, W_oNo, partK_i, decide_true, decide_false, in_sgn]
        refine Sat_use0 (s16 (n := n + 2) hsz hcs P8 (by omega) hmost (by omega)) ?_
        rintro _ S9 ⟨rfl, P9, F9⟩
        try simp -implicitDefEqProofs only [Sat_ok, Sat_err, Sat_bad, Sat_bind, W_var, W_vars, W_c, W_nil, W_cons, W_tup, W_lst, W_new, W_bin, W_un, W_fn, W_dfn, W_call, W_callP, W_if, W_isi, W_val, W_setI, W_app, W_pop, W_popAt, W_ins, W_augI, andK_b, orK_b, W_and, W_or, notK_b, W_not, boolK_b, W_tval, W_tnot, W_tand, W_tor, W_tyes, W_mul, W_mod, W_fdiv, W_pow, W_idxT, W_idxL, Sx_next, Sx_seq, Sx_pass, Sx_expr, Sx_set, Sx_ret, Sx_retN, Sx_brk, Sx_cont, Sx_raise, Sx_if, Sx_par, Sx_par3, Sx_asg, Sx_for, outK_ret, outK_err, outK_brk, outK_cont, loopK_ret, loopK_err, loopK_brk, loopK_cont, W_rng1, rngK_i, W_rng2, rngK2_i, W_seq, seqK_t, seqK_l, W_enumA, enumK_t, enumK_l, W_zip2, oCat_i, oSub_i, oNeg_i, oLt_i, oLe_i, oGt_i, oGe_i, oInt_i, oAbs_i, oMax2_i, oMin2_i, oGcd_i, oIsN_ap, oNotN_ap, oEq_i, oNe_i, oNe_b, oEq_b, gTup_ap, gAll_cons, gNm_ap, gAll_nil, List.set, decide_eq_true_eq, decide_eq_false_iff_not, if_true, if_false, Bool.not_eq_true, Bool.not_eq_true', Bool.false_eq_true, true_and, and_true, Option.some.injEq, exists_eq_left', exists_eq_left, beq_iff_eq, beq_eq_false_iff_ne, optR_some, R.bind, W_lc, atI_c0, atI_c1, atI_c2, Sx_try, tryK_ret, tryK_brk, tryK_cont, offK_ret, offK_brk, offK_cont, Bool.not_true, Bool.not_false, Bool.true_eq_false, not_true_eq_false, not_false_eq_true, true_implies, false_implies, implies_true, Bool.or_false, Bool.or_true, Bool.and_true, Bool.and_false, Bool.true_and, Bool.false_and, Bool.true_or, Bool.false_or, W_str1, strK_s, W_dstr1, strKF_s, st_starts, W_seqS, seqSK_s, W_sl, W_oPart, W_oNo, partK_i, decide_true, decide_false, in_sgn]
        refine Sat_use0 (s18 (n := n) hsz hcs P9 (by omega) hmost (by omega) hG (by rw [hp2.length_eq]; omega)) ?_
        rintro _ S10 ⟨rfl, P10, F10⟩
        try simp -implicitDefEqProofs only [Sat_ok, Sat_err, Sat_bad, Sat_bind, Sat_ite, W_var, W_vars, W_c, W_nil, W_cons, W_tup, W_lst, W_new, W_bin, W_un, W_fn, W_dfn, W_call, W_callP, W_if, W_isi, W_val, W_setI, W_app, W_pop, W_popAt, W_ins, W_augI, andK_b, orK_b, W_and, W_or, notK_b, W_not, boolK_b, W_tval, W_tnot, W_tand, W_tor, W_tyes, W_mul, W_mod, W_fdiv, W_pow, W_idxT, W_idxL, Sx_next, Sx_seq, Sx_pass, Sx_expr, Sx_set, Sx_ret, Sx_retN, Sx_brk, Sx_cont, Sx_raise, Sx_if, Sx_ite, Sx_par, Sx_par3, Sx_asg, Sx_for, outK_ret, outK_err, outK_brk, outK_cont, loopK_ret, loopK_err, loopK_brk, loopK_cont, W_rng1, rngK_i, W_rng2, rngK2_i, W_seq, seqK_t, seqK_l, W_enumA, enumK_t, enumK_l, W_zip2, oCat_i, oSub_i, oNeg_i, oLt_i, oLe_i, oGt_i, oGe_i, oInt_i, oAbs_i, oMax2_i, oMin2_i, oGcd_i, oIsN_ap, oNotN_ap, oEq_i, oNe_i, oNe_b, oEq_b, gTup_ap, gAll_cons, gNm_ap, gAll_nil, List.set, decide_eq_true_eq, decide_eq_false_iff_not, if_true, if_false, Bool.not_eq_true, Bool.not_eq_true', Bool.false_eq_true, true_and, and_true, Option.some.injEq, exists_eq_left', exists_eq_left, beq_iff_eq, beq_eq_false_iff_ne, optR_some, R.bind, W_lc, atI_c0, atI_c1, atI_c2, Sx_try, tryK_ret, tryK_brk, tryK_cont, offK_ret, offK_brk, offK_cont, Bool.not_true, Bool.not_false, Bool.true_eq_false, not_true_eq_false, not_false_eq_true, true_implies, false_implies, implies_true, Bool.or_false, Bool.or_true, Bool.and_true, Bool.and_false, Bool.true_and, Bool.false_and, Bool.true_or, Bool.false_or, W_str1, strK_s, W_dstr1, strKF_s, st_starts, W_seqS, seqSK_s, W_sl, W_oPart, W_oNo, partK_i, decide_true, decide_false, in_sgn]
        exact ⟨_, _, _, _, _, _, _, _, rfl⟩
    · rintro e U ⟨a, b, c, d, f, g, h, k, rfl⟩
      try simp -implicitDefEqProofs only [Sat_ok, Sat_err, Sat_bad, Sat_bind, Sat_ite, W_var, W_vars, W_c, W_nil, W_cons, W_tup, W_lst, W_new, W_bin, W_un, W_fn, W_dfn, W_call, W_callP, W_if, W_isi, W_val, W_setI, W_app, W_pop, W_popAt, W_ins, W_augI, andK_b, orK_b, W_and, W_or, notK_b, W_not, boolK_b, W_tval, W_tnot, W_tand, W_tor, W_tyes, W_mul, W_mod, W_fdiv, W_pow, W_idxT, W_idxL, Sx_next, Sx_seq, Sx_pass, Sx_expr, Sx_set, Sx_ret, Sx_retN, Sx_brk, Sx_cont, Sx_raise, Sx_if, Sx_ite, Sx_par, Sx_par3, Sx_asg, Sx_for, outK_ret, outK_err, outK_brk, outK_cont, loopK_ret, loopK_err, loopK_brk, loopK_cont, W_rng1, rngK_i, W_rng2, rngK2_i, W_seq, seqK_t, seqK_l, W_enumA, enumK_t, enumK_l, W_zip2, oCat_i, oSub_i, oNeg_i, oLt_i, oLe_i, oGt_i, oGe_i, oInt_i, oAbs_i, oMax2_i, oMin2_i, oGcd_i, oIsN_ap, oNotN_ap, oEq_i, oNe_i, oNe_b, oEq_b, gTup_ap, gAll_cons, gNm_ap, gAll_nil, List.set, decide_eq_true_eq, decide_eq_false_iff_not, if_true, if_false, Bool.not_eq_true, Bool.not_eq_true', Bool.false_eq_true, true_and, and_true, Option.some.injEq, exists_eq_left', exists_eq_left, beq_iff_eq, beq_eq_false_iff_ne, optR_some, R.bind, W_lc, atI_c0, atI_c1, atI_c2, Sx_try, tryK_ret, tryK_brk, tryK_cont, offK_ret, offK_brk, offK_cont, Bool.not_true, Bool.not_false, Bool.true_eq_false, not_true_eq_false, not_false_eq_true, true_implies, false_implies, implies_true, Bool.or_false, Bool.or_true, Bool.and_true, Bool.and_false, Bool.true_and, Bool.false_and, Bool.true_or, Bool.false_or, W_str1, strK_s, W_dstr1, strKF_s, st_starts, W_seqS, seqSK_s, W_sl, W_oPart, W_oNo, partK_i, decide_true, decide_false, in_sgn]
  rw [c19]
  cases q : runBody (d19 (calls (n + 6))) 9 [.fls ns] [] with
  | ok d T =>
    rw [q] at h
    have : d = .bl true := h
    subst this
    have := tidy_no (S := []) (T := T) (d := .bl true) rfl
    rw [List.nil_append] at this
    exact ⟨_, this⟩
  | err c v T => rw [q] at h; exact h.elim
  | bad => rw [q] at h; exact h.elim
theorem all_holds : PySem.Challenge.rw_wholerates_k73_messages_that_are_asked.Holds := holds_of 7 ⟨rfl, by decide, by decide⟩ fun ns hl => law_ok (n := 0) hl
end K73

theorem PySem.Challenge.cw_wholerates_k73_messages_that_are_asked_holds : PySem.Challenge.rw_wholerates_k73_messages_that_are_asked.Holds := by
  exact K73.all_holds
